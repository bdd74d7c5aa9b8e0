/- The walks of a text. -/
import Derived.Test.YtkbpoeellidgeaaGreatDoorX
set_option linter.unusedVariables false
set_option linter.unusedSimpArgs false
set_option linter.unusedSectionVars false
set_option linter.unnecessarySimpa false
set_option maxHeartbeats 4000000
set_option maxRecDepth 100000
namespace Go.Proofs.YtkbpoeellidgeaaGreatDoor
open Go.Proofs.Tryz
open Go Go.Sk

theorem f113_c(s0:lI)(a:Int→oB)(g1:FuncId)(c e:lD)(g:∀(y0:Int)(r:Bool),a y0=some r→Pu prog g1 (c++ [.i .i64 y0]++e) (.b r)){r:Int}(h:f113 s0 a=some r):Pu prog 113 [.sl (List.map E3 s0), .fnc (.func g1) c e] (.i .i64 r):=by
 unfold f113 at h
 refine fI func113 λ_ _=>?_
 refine WC.cast 1 q (gv _ _ _) (Rcc 5 q (Jn0 [] [] h (λj h=>?_) λh=>?_))
 refine Rcl 3 q (Zq (ab E3 s0 e51 q q Zl) q (Rlc 4 q (Ln1 (λf=> [(0, .l E3 s0),(1, .fn (.func g1) (List.map AV.d c) (List.map AV.d e)),(7, .n (List.length s0:Int)),(8, .n f)]) (λ_=> []) (f113_l1 s0 a j) h (λ_ h=>by rw[f113_l1] at h;cases h) λn f h=>?_)))
 rw[f113_l1] at h
 refine Rcc 6 q (Ci h q (λh=>?_) λh=>?_)
 refine Rcl 15 q (Ix h e51 du q Zl q q λm _ h=>(Rl 1 q ?_))
 obtain⟨p,k,h⟩:=ae h
 refine WL.fn q q q q (g _ _ k) (kH Lw) (Zw q) q q (Rlc 2 q (Ci h q (λh=>?_) λh=>?_))
 exact Rcx 12 q (FA h)
 exact Rcx 7 q (Fn1 h)
 exact Rcx 4 q (En0 h)
 exact Rcx 6 q (FA h)

theorem f85_c(s0:lI)(e:Int→oB)(g1:FuncId)(a c:lD)(f:∀(y0:Int)(r:Bool),e y0=some r→Pu prog g1 (a++ [.i .i64 y0]++c) (.b r)){r:Bool}(h:f85 s0 e=some r):Pu prog 85 [.sl (List.map E3 s0), .fnc (.func g1) a c] (.b r):=by
 unfold f85 at h
 refine fI func85 λ_ _=>?_
 refine WC.cast 1 q (gv _ _ _) (Rcl 9 q ?_)
 obtain⟨j,g,h⟩:=ae h
 exact wF Z4 (f113_c _ _ g1 a c f g) ⟨Zl,(Le.fnc (Zs _) (Zs _)),Zt⟩ Z3 (Rlx 5 q (FA h))

theorem f86_c(n0:Int)(a:Int):Pu prog 86 [.i .i64 n0, .pc (E2 a)] (.b (f86 n0 a)):=by
 generalize h:f86 n0 a=r
 unfold f86 at h
 refine fI func86 λ_ _=>?_
 exact Rcx 15 q (FB h)

theorem f55_c{o0:Obj}{v1:Int}{r:Bool}(h:f55 o0 v1=some r):Pu prog 55 [.ag (R53 o0), .i .i64 v1] (.b r):=by
 unfold f55 at h
 refine fI func55 λ_ _=>?_
 refine Rcl 2 q (Bd q q (Zs _) q (WL.s ((jU q q (by exact(show Les [.n v1] (List.map AV.d [.i .i64 v1]) from Lw))).does) (Zw q) q q (Rlc 10 q (Ci h q (λh=>?_) λh=>?_))))
 refine Rcl 5 q ?_
 obtain⟨a,c,h⟩:=ae h
 refine Gg 5 9 14 a c (λh=>?_) (λh=>?_) ?_
 exact On 5 5 h
 refine Rl 3 q ?_
 obtain⟨f,e,h⟩:=ae h
 exact WL.fn q q q q (f85_c _ _ 86 [] [(.pc (E2 v1))] (λz0 _ h=>by obtain rfl:=inS h;exact f86_c z0 v1) e) ⟨Zl,(Le.fnc Zt Lw),Zt⟩ (aG q q q) q q (On 1 5 h)
 exact Rlx 5 q (FA h)
 refine Rcl 9 q ?_
 refine AG 5 19 24 5 5 ?_
 exact Rlx 4 q (FA h)

theorem f67_c{t0:bP}{o1:Obj}{r:Bool}(h:f67 t0 o1=some r):Pu prog 67 [.ag (bU t0), .ag (R53 o1)] (.b r):=by
 unfold f67 at h
 refine fI func67 λ_ _=>?_
 refine Rcl 2 q (Bd q q (Zs _) q (Bd q q (Zs _) q (Rll 10 q ?_)))
 refine OG 4 11 15 4 4 ?_
 refine Rl 1 q ?_
 refine OG 6 16 22 6 6 ?_
 refine Rlc 2 q (Ci h q (λh=>Rcx 7 q (FA h)) λh=>?_)
 refine Rcc 10 q (Ci h q (λh=>Rcl 4 q (Zq (ab E3 o1.set_ e51 q q Zl) q (Rlx 6 q (FA h)))) λh=>?_)
 refine Rcc 7 q (Jn0 [(3, .d (.pc (R53 o1)))] [] h (λg h=>?_) λh=>?_)
 refine Rcl 4 q (Zq (ab E3 o1.set_ e51 q q Zl) q (Rlc 4 q (Ln2 (λa c=> [(2, .d (.pc (bU t0))),(3, .d (.pc (R53 o1))),(5, .n a),(31, .l E3 o1.set_),(32, .n (List.length o1.set_:Int)),(33, .n c)]) (λ_ _=> []) (f67_l1 t0 o1 g) h (λ_ _ h=>by rw[f67_l1] at h;cases h) λn a c h=>?_)))
 rw[f67_l1] at h
 refine Rcc 6 q (Ci h q (λh=>?_) λh=>?_)
 refine Rcl 6 q (Ix h e51 du q Zl q q λw _ h=>(Rll 11 q ?_))
 apply WL.or 7 (t:=40) (d:=47)
 exact q
 intro x
 exact Rl 4 q (Zy (ab E53 t0.text.objs e27 q q Zl) q q q (Rl 2 q (WL.nil ⟨q,[_,_,_,_,_,_,_],q,q,q⟩)))
 exact Rn 7 7
 refine Rl 1 q ?_
 obtain⟨j,k,h⟩:=ae h
 refine Gg 9 48 57 j k (λh=>?_) (λh=>?_) ?_
 exact On 9 9 h
 refine Rl 4 q ?_
 obtain⟨y,e,h⟩:=ae h
 exact Zy (ah e27 q Zl q (af e) (an cA e) q) q q q (On 4 9 h)
 refine Rl 1 q ?_
 obtain⟨m,p,h⟩:=ae h
 refine Gg 8 58 66 m p (λh=>?_) (λh=>?_) ?_
 exact On 8 8 h
 refine Rl 4 q ?_
 obtain⟨A,f,h⟩:=ae h
 exact Zy (ah e27 q Zl q (af f) (an cA f) q) q q q (On 3 8 h)
 exact Rlc 2 q (Ci h q (λh=>Rcx 12 q (FA h)) λh=>Rcx 12 q (Fn2 h))
 exact Rcx 4 q (En0 h)
 refine Rcl 6 q ?_
 refine AG 4 72 76 4 4 ?_
 exact Rlx 4 q (FA h)

theorem f68_c{t0:bP}{o1:Int}{a:Int}{c:Int}{r:Bool}(h:f68 t0 o1 a c=some r):Pu prog 68 [.ag (bU t0), .i .i64 o1, .i .i64 a, .i .i64 c] (.b r):=by
 unfold f68 at h
 refine fI func68 λ_ _=>?_
 refine Rcl 2 q (Bd q q (Zs _) q (Rll 8 q ?_))
 apply WL.and 7 (t:=11) (d:=18)
 exact q
 intro j
 exact Rl 4 q (Zy (ab E53 t0.text.objs e27 q q Zl) q q q (Rl 2 q (WL.nil ⟨q,[_,_,_,_,_,_,_],q,q,q⟩)))
 exact Rn 7 7
 refine Rl 1 q ?_
 refine AG 3 19 22 3 3 ?_
 refine Rl 1 q ?_
 obtain⟨f,g,h⟩:=ae h
 refine Gg 12 23 35 f g (λh=>?_) (λh=>?_) ?_
 refine Rl 5 q ?_
 obtain⟨k,e,h⟩:=ae h
 exact Zy (ah e27 q Zl q (af e) (an cA e) q) q q q (On 6 12 h)
 exact On 12 12 h
 exact Rlx 4 q (FA h)

theorem f44_c{t0:bP}{r:Bool}(h:f44 t0=some r):Pu prog 44 [.ag (bU t0)] (.b r):=by
 unfold f44 at h
 refine fI func44 λ_ _=>?_
 refine Rcl 2 q (Bd q q (Zs _) q (Rll 9 q (Zq (ab E53 t0.text.objs e27 q q Zl) q (Rl 2 q ?_))))
 refine OG 5 15 20 5 5 ?_
 refine Rl 1 q ?_
 refine OG 5 21 26 5 5 ?_
 refine Rlc 2 q (Ci h q (λh=>Rcx 7 q (FA h)) λh=>?_)
 refine Rcc 7 q (Jn1 (λc=> [(1, .d (.pc (bU t0))),(3, .n c)]) (λ_=> []) h (λC h=>?_) λc h=>?_)
 refine Rcl 5 q (Zq (ab E53 t0.text.objs e27 q q Zl) q (Rlc 4 q (Ln2 (λf g=> [(1, .d (.pc (bU t0))),(3, .n f),(29, .l E53 t0.text.objs),(30, .n (List.length t0.text.objs:Int)),(31, .n g)]) (λ_ _=> []) (f44_l1 t0 C) h (λ_ _ h=>by rw[f44_l1] at h;cases h) λn f g h=>?_)))
 rw[f44_l1] at h
 refine Rcc 6 q (Ci h q (λh=>?_) λh=>?_)
 refine Rcl 6 q (Ix h e27 cA q Zl q q λE _ h=>(Rl 1 q (Al z53 q (sS Z6 s53 Z2 (Rll 7 q ?_)))))
 obtain⟨M,F,h⟩:=ae h
 refine wF Z4 (f67_c F) ⟨Zl,(ak (Zs _)),Zt⟩ Z3 (Rlc 3 q (Ci h q (λh=>?_) λh=>?_))
 exact Rcx 12 q (FA h)
 exact Rcx 15 q (WE.drop 0 (env':=[(1, .d (.pc (bU t0))),(3, .n (IntKind.i64.wrap (f+E.size))),(29, .l E53 t0.text.objs),(30, .n (List.length t0.text.objs:Int)),(31, .n (IntKind.i64.wrap (g+1)))]) Sb q q (Nat.zero_le _) (Fn2 h))
 exact Rcx 4 q (En1 h)
 refine Rcl 2 q (WL.s ((eS (α:=Bool) kP (λx:Bool=>AV.d (.b x))).does) (Zw q) q q (Rlc 3 q (Jn1 (λ_=> [(3, .n c)]) (λw=> [mpO kP (λx:Bool=>AV.d (.b x)) w]) h (λG h=>?_) λw h=>?_)))
 refine Rcl 5 q (Zq (ab E80 t0.text.inits e28 q q Zl) q (Rlc 4 q (Ln2 (λj _=> [(1, .d (.pc (bU t0))),(3, .n c),(6, .mp 0),(47, .l E80 t0.text.inits),(48, .n (List.length t0.text.inits:Int)),(49, .n j)]) (λ_ e=> [mpO kP (λx:Bool=>AV.d (.b x)) e]) (f44_l2 t0 G) h (λ_ _ h=>by rw[f44_l2] at h;cases h) λn j e h=>?_)))
 rw[f44_l2] at h
 refine Rcc 6 q (Ci h q (λh=>?_) λh=>?_)
 refine Rcl 6 q (Ix h e28 fK q Zl q q λa _ h=>(Rl 1 q (Al z80 q (sS Z6 s80 Z2 (Rll 8 q (Zq (ac p141 z141 q q) q (Al z141 q (sS Z6 s141 Z2 (Rlc 4 q (av kR kR (Rq 2 q (WQ.qn (pA kP (λx:Bool=>AV.d (.b x)) e (k:=(a.o,a.slot)) (z:=false) (vs:=[.int .i64 a.o, .int .i64 a.slot]) underlying139 (fX underlying141 underlying3 underlying3 q q kR) q q q (ak (Zs _)) q kR q) q (Rq 1 q ?_)))))))))))))
 obtain⟨H,y,h⟩:=ae h
 apply WQ.grp 8 (t:=61) (d:=69) (z:=H)
 exact q
 intro m
 have h:=cG y m
 refine Rq 8 q ?_
 obtain rfl:=Oi h
 exact WQ.nil ⟨[_,_,_,_,_,_,_,_],q,q,q⟩
 intro m
 have h:=cH y m
 refine Rq 5 q ?_
 obtain⟨N,I,h⟩:=ae h
 refine WQ.q (YieldsQ.fn q q q q q (f68_c I) Lw) (aG q q q) q q (Rq 2 q ?_)
 obtain rfl:=Oi h
 exact WQ.nil ⟨[_,_,_,_,_,_,_,_],q,q,q⟩
 refine Rq 1 q ?_
 obtain⟨K,A,h⟩:=ae h
 apply WQ.grp 12 (t:=70) (d:=82) (z:=K)
 exact q
 intro p
 have h:=cG A p
 refine Rq 12 q ?_
 obtain rfl:=Oi h
 exact WQ.nil ⟨[_,_,_,_,_,_,_,_,_,_,_,_],q,q,q⟩
 intro p
 have h:=cH A p
 refine Rq 5 q ?_
 obtain⟨O,B,h⟩:=ae h
 refine WQ.qy (ah e27 q Zl q (af B) (an cA B) q) q q q (Rq 3 q ?_)
 obtain⟨P,L,h⟩:=ae h
 refine WQ.q (YieldsQ.fn q q q q q (f55_c L) Lw) (aG q q q) q q (Rq 2 q ?_)
 obtain rfl:=Oi h
 exact WQ.nil ⟨[_,_,_,_,_,_,_,_,_,_,_,_],q,q,q⟩
 refine WQ.nil (Rxc 1 q (Ci h q (λh=>?_) λh=>?_))
 exact Rcx 12 q (FA h)
 exact Rcl 5 q (WL.s0 (me kP (λx:Bool=>AV.d (.b x)) e (k:=(a.o,a.slot)) (vs:=[.int .i64 a.o, .int .i64 a.slot]) (.inr q) underlying139 (fX underlying141 underlying3 underlying3 q q kR) q q q (ak (Zs _)) q q) (Zw q) q (Rlx 7 q (WE.drop 1 (env':=[(1, .d (.pc (bU t0))),(3, .n c),(6, .mp 0),(47, .l E80 t0.text.inits),(48, .n (List.length t0.text.inits:Int)),(49, .n (IntKind.i64.wrap (j+1)))]) Sb q (ay (cv _ kP (λx:Bool=>(.b x:D)) _) q) (Nat.zero_le _) (Fn2 h))))
 exact Rcx 4 q (En1 h)
 exact Rcx 8 q (FA h)

theorem f69_c{t0:bP}{a1:Int}:Pu prog 69 [.ag (bU t0), .i .i64 a1] (.b (f69 t0 a1)):=by
 generalize h:f69 t0 a1=r
 unfold f69 at h
 refine fI func69 λ_ _=>?_
 refine Rcl 2 q (Bd q q (Zs _) q (Rll 8 q ?_))
 apply WL.and 7 (t:=7) (d:=14)
 exact q
 intro a
 exact Rl 4 q (Zy (ab E59 t0.text.insns e22 q q Zl) q q q (Rl 2 q (WL.nil ⟨q,[_,_,_,_,_,_,_],q,q,q⟩)))
 exact Rn 7 7
 exact Rlx 4 q (FB h)

theorem f104_c(s0:List bO)(a:bO→oB)(g1:FuncId)(c e:lD)(g:∀(y0:bO)(r:Bool),a y0=some r→Pu prog g1 (c++ [.ag (R74 y0)]++e) (.b r)){r:Int}(h:f104 s0 a=some r):Pu prog 104 [.sl (List.map E74 s0), .fnc (.func g1) c e] (.i .i64 r):=by
 unfold f104 at h
 refine fI func104 λ_ _=>?_
 refine WC.cast 1 q (gv _ _ _) (Rcc 5 q (Jn0 [] [] h (λj h=>?_) λh=>?_))
 refine Rcl 3 q (Zq (ab E74 s0 e46 q q Zl) q (Rlc 4 q (Ln1 (λf=> [(0, .l E74 s0),(1, .fn (.func g1) (List.map AV.d c) (List.map AV.d e)),(7, .n (List.length s0:Int)),(8, .n f)]) (λ_=> []) (f104_l1 s0 a j) h (λ_ h=>by rw[f104_l1] at h;cases h) λn f h=>?_)))
 rw[f104_l1] at h
 refine Rcc 6 q (Ci h q (λh=>?_) λh=>?_)
 refine Rcl 15 q (Ix h e46 ib q Zl q q λm _ h=>(Rl 1 q ?_))
 obtain⟨p,k,h⟩:=ae h
 refine WL.fn q q q q (g _ _ k) (kH Lw) (Zw q) q q (Rlc 2 q (Ci h q (λh=>?_) λh=>?_))
 exact Rcx 12 q (FA h)
 exact Rcx 7 q (Fn1 h)
 exact Rcx 4 q (En0 h)
 exact Rcx 6 q (FA h)

theorem f70_c(s0:List bO)(e:bO→oB)(g1:FuncId)(a c:lD)(f:∀(y0:bO)(r:Bool),e y0=some r→Pu prog g1 (a++ [.ag (R74 y0)]++c) (.b r)){r:Bool}(h:f70 s0 e=some r):Pu prog 70 [.sl (List.map E74 s0), .fnc (.func g1) a c] (.b r):=by
 unfold f70 at h
 refine fI func70 λ_ _=>?_
 refine WC.cast 1 q (gv _ _ _) (Rcl 9 q ?_)
 obtain⟨j,g,h⟩:=ae h
 exact wF Z4 (f104_c _ _ g1 a c f g) ⟨Zl,(Le.fnc (Zs _) (Zs _)),Zt⟩ Z3 (Rlx 5 q (FA h))

theorem f105_c(o0:Int)(a:bP){r:Bool}(h:f105 o0 a=some r):Pu prog 105 [.i .i64 o0, .pc (bU a)] (.b r):=by
 unfold f105 at h
 refine fI func105 λ_ _=>?_
 refine Rcl 10 q ?_
 apply WL.or 7 (t:=6) (d:=13)
 exact q
 intro g
 exact Rl 4 q (Zy (ab E53 a.text.objs e27 q q Zl) q q q (Rl 2 q (WL.nil ⟨q,[_,_,_,_,_,_,_],q,q,q⟩)))
 exact Rn 7 7
 refine Rl 1 q ?_
 obtain⟨e,f,h⟩:=ae h
 refine Gg 9 14 23 e f (λh=>?_) (λh=>?_) ?_
 exact On 9 9 h
 refine Rl 4 q ?_
 obtain⟨j,c,h⟩:=ae h
 exact Zy (ah e27 q Zl q (af c) (an cA c) q) q q q (On 4 9 h)
 exact Rlx 4 q (FA h)

theorem f72_c{t0:bP}{l1:lI}{r:Bool}(h:f72 t0 l1=some r):Pu prog 72 [.ag (bU t0), .sl (List.map E3 l1)] (.b r):=by
 unfold f72 at h
 refine fI func72 λ_ _=>?_
 refine Rcl 2 q (Bd q q (Zs _) q (Rll 6 q (Zq (ab E3 l1 e51 q q Zl) q (Rl 2 q ?_))))
 obtain⟨a,c,h⟩:=ae h
 refine Gg 5 8 13 a c (λh=>?_) (λh=>?_) ?_
 refine Rl 2 q ?_
 obtain⟨f,e,h⟩:=ae h
 exact WL.fn q q q q (f85_c _ _ 105 [] [(.pc (bU t0))] (λz0 _ h=>f105_c z0 t0 h) e) ⟨Zl,(Le.fnc Zt Lw),Zt⟩ (aG q q q) q q (On 2 5 h)
 exact On 5 5 h
 exact Rlx 4 q (FA h)

theorem f71_c(e0:bO)(a:bP){r:Bool}(h:f71 e0 a=some r):Pu prog 71 [.ag (R74 e0), .pc (bU a)] (.b r):=by
 unfold f71 at h
 refine fI func71 λ_ _=>?_
 refine Rcl 2 q (Bd q q (Zs _) q (Rll 8 q ?_))
 obtain⟨j,c,h⟩:=ae h
 refine wF Z4 (f72_c c) Lw Z3 (Rl 2 q ?_)
 obtain⟨e,f,h⟩:=ae h
 refine Gg 6 9 15 e f (λh=>?_) (λh=>?_) ?_
 exact On 6 6 h
 refine Rl 3 q ?_
 obtain⟨k,g,h⟩:=ae h
 exact WL.fn q q q q (f72_c g) Lw (aG q q q) q q (On 2 6 h)
 exact Rlx 4 q (FA h)

theorem f45_c{t0:bP}{r:Bool}(h:f45 t0=some r):Pu prog 45 [.ag (bU t0)] (.b r):=by
 unfold f45 at h
 refine fI func45 λ_ _=>?_
 refine Rcl 2 q (Bd q q (Zs _) q (Rll 9 q (Zq (ab E48 t0.text.tasks e29 q q Zl) q (Rl 2 q ?_))))
 apply WL.or 6 (t:=10) (d:=16)
 exact q
 intro g
 exact Rl 3 q (Zy (ab E48 t0.text.tasks e29 q q Zl) q q q (Rl 2 q (WL.nil ⟨q,[_,_,_,_,_,_],q,q,q⟩)))
 exact Rn 6 6
 refine Rlc 2 q (Ci h q (λh=>Rcx 7 q (FA h)) λh=>?_)
 refine Rcc 2 q (Jn0 [] [] h (λc h=>?_) λh=>?_)
 refine Rcl 5 q (Zq (ab E48 t0.text.tasks e29 q q Zl) q (Rlc 4 q (Ln1 (λa=> [(1, .d (.pc (bU t0))),(19, .l E48 t0.text.tasks),(20, .n (List.length t0.text.tasks:Int)),(21, .n a)]) (λ_=> []) (f45_l1 t0 c) h (λ_ h=>by rw[f45_l1] at h;cases h) λn a h=>?_)))
 rw[f45_l1] at h
 refine Rcc 6 q (Ci h q (λh=>?_) λh=>?_)
 refine Rcl 6 q (Ix h e29 dK q Zl q q λe _ h=>(Rl 1 q (Al z48 q (sS Z6 s48 Z2 (Rll 9 q ?_)))))
 refine OG 4 28 32 4 4 ?_
 refine Rl 1 q ?_
 apply WL.or 6 (t:=33) (d:=39)
 exact q
 intro j
 exact Rl 3 q (WL.fn q q q q (f69_c) Lw (aG q q q) q q (Rl 2 q (WL.nil ⟨q,[_,_,_,_,_,_],q,q,q⟩)))
 exact Rn 6 6
 refine Rl 1 q ?_
 refine OG 4 40 44 4 4 ?_
 refine Rl 1 q ?_
 refine OG 4 45 49 4 4 ?_
 refine Rl 1 q ?_
 apply WL.or 5 (t:=50) (d:=55)
 exact q
 intro k
 exact Rl 2 q (Zy (ab E74 e.entries e46 q q Zl) q q q (Rl 2 q (WL.nil ⟨q,[_,_,_,_,_],q,q,q⟩)))
 exact Rn 5 5
 refine Rlc 2 q (Ci h q (λh=>Rcx 12 q (FA h)) λh=>?_)
 refine Rcl 7 q ?_
 obtain⟨m,f,h⟩:=ae h
 refine wF Z4 (f70_c _ _ 71 [] [(.pc (bU t0))] (λz0 _ h=>f71_c z0 t0 h) f) ⟨Zl,(Le.fnc Zt Lw),Zt⟩ Z3 (Rlc 2 q (Ci h q (λh=>?_) λh=>?_))
 exact Rcx 11 q (FA h)
 exact Rcx 7 q (WE.drop 0 (env':=[(1, .d (.pc (bU t0))),(19, .l E48 t0.text.tasks),(20, .n (List.length t0.text.tasks:Int)),(21, .n (IntKind.i64.wrap (a+1)))]) Sb q q (Nat.zero_le _) (Fn1 h))
 exact Rcx 4 q (En0 h)
 exact Rcx 6 q (FA h)

theorem f46_c{t0:bP}{r:Bool}(h:f46 t0=some r):Pu prog 46 [.ag (bU t0)] (.b r):=by
 unfold f46 at h
 refine fI func46 λ_ _=>?_
 refine Rcl 2 q (Bd q q (Zs _) q (Rll 9 q (Zq (ab E51 t0.text.lists e26 q q Zl) q (Rlc 3 q (Ci h q (λh=>?_) λh=>?_)))))
 exact Rcx 7 q (FA h)
 refine Rcc 2 q (Jn0 [] [] h (λk h=>?_) λh=>?_)
 refine Rcl 5 q (Zq (ab E51 t0.text.lists e26 q q Zl) q (Rlc 4 q (Ln1 (λc=> [(1, .d (.pc (bU t0))),(15, .l E51 t0.text.lists),(16, .n (List.length t0.text.lists:Int)),(17, .n c)]) (λ_=> []) (f46_l1 t0 k) h (λ_ h=>by rw[f46_l1] at h;cases h) λn c h=>?_)))
 rw[f46_l1] at h
 refine Rcc 6 q (Ci h q (λh=>?_) λh=>?_)
 refine Rcc 2 q (Jn1 (λ_=> [(1, .d (.pc (bU t0))),(15, .l E51 t0.text.lists),(16, .n (List.length t0.text.lists:Int)),(17, .n c)]) (λf=> [mpO kW (λx:Bool=>AV.d (.b x)) f]) h (λ_ h=>?_) λf h=>?_)
 refine Rcl 3 q (Ix h e26 t8 q Zl q q λa _ h=>(Rll 6 q (WL.s ((eS (α:=Bool) kW (λx:Bool=>AV.d (.b x))).does) (Zw q) q q (Rlc 3 q (Jn1 (λ_=> [(1, .d (.pc (bU t0))),(4, .l E3 a),(15, .l E51 t0.text.lists),(16, .n (List.length t0.text.lists:Int)),(17, .n c)]) (λg=> [mpO kW (λx:Bool=>AV.d (.b x)) g]) h (λm h=>?_) λg h=>?_)))))
 refine Rcl 3 q (Zq (ab E3 a e51 q q Zl) q (Rlc 4 q (Ln2 (λj _=> [(1, .d (.pc (bU t0))),(4, .l E3 a),(5, .mp 0),(15, .l E51 t0.text.lists),(16, .n (List.length t0.text.lists:Int)),(17, .n c),(22, .l E3 a),(23, .n (List.length a:Int)),(24, .n j)]) (λ_ e=> [mpO kW (λx:Bool=>AV.d (.b x)) e]) (f46_l2 t0 a m) h (λ_ _ h=>by rw[f46_l2] at h;cases h) λna j e h=>?_)))
 rw[f46_l2] at h
 refine Rcc 6 q (Ci h q (λh=>?_) λh=>?_)
 refine Rcl 6 q (Ix h e51 du q Zl q q λp _ h=>(Rll 10 q ?_))
 apply WL.or 7 (t:=30) (d:=37)
 exact q
 intro w
 exact Rl 4 q (Zy (ab E48 t0.text.tasks e29 q q Zl) q q q (Rl 2 q (WL.nil ⟨q,[_,_,_,_,_,_,_],q,q,q⟩)))
 exact Rn 7 7
 refine Rl 1 q ?_
 apply WL.or 4 (t:=38) (d:=42)
 exact q
 intro y
 exact Rl 2 q (Zy (nQ kW (λx:Bool=>AV.d (.b x)) e (z:=false) underlying147 underlying3 (KeyF.int .i64) q q q kR q) q q q (Rl 1 q (WL.nil ⟨q,[_,_,_,_],q,q,q⟩)))
 exact Rn 4 4
 refine Rlc 2 q (Ci h q (λh=>Rcx 17 q (FA h)) λh=>?_)
 exact Rcl 5 q (WL.s0 (bq kW (λx:Bool=>AV.d (.b x)) e (.inr q) underlying147 underlying3 (KeyF.int .i64) q q q q) (Zw q) q (Rlx 7 q (Fn2 h)))
 exact Rcx 4 q (En1 h)
 refine Rcl 3 q (Zq (ab E3 a e51 q q Zl) q (Rlc 3 q (Ci h q (λh=>?_) λh=>?_)))
 exact Rcx 11 q (FA h)
 exact Rcx 2 q (En1 h)
 exact Rcx 4 q (WE.drop 0 (env':=[(1, .d (.pc (bU t0))),(15, .l E51 t0.text.lists),(16, .n (List.length t0.text.lists:Int)),(17, .n (IntKind.i64.wrap (c+1)))]) Sb q q (Nat.zero_le _) (Fn1 h))
 exact Rcx 4 q (En0 h)
 exact Rcx 6 q (FA h)

theorem f73s_c(F:lN→lH→lP→lS→lL→lO→lT→Int→lK→lM→lC→Int→Int→bc→Int→Option (Bool×lN×lH×lP×lS×lL×lO×lT×Int×lK×lM×lC×Int×Int))(e:lN)(f:lH)(g:lP)(j:lS)(k:lL)(m:lO)(p:lT)(w:Int)(x:lK)(y:lM)(A:lC)(jent:Int)(jleft:Int)(e1:bc)(B:Int)(U:∀(e:lN)(f:lH)(g:lP)(j:lS)(k:lL)(m:lO)(p:lT)(w:Int)(x:lK)(y:lM)(A:lC)(jent:Int)(jleft:Int)(x1:bc)(x2:Int)(r:Bool×lN×lH×lP×lS×lL×lO×lT×Int×lK×lM×lC×Int×Int),F e f g j k m p w x y A jent jleft x1 x2=some r→Ctr prog 73 [.pt 0 0, .d (.ag (R92 x1)), .n x2] [.row 150 [.l E59 e, .l cq f, .l cM g, .l E98 j, .l E51 k, .l E53 m, .l E80 p, .n w, .l E48 x, .l E87 y, .l E95 A, .n jent, .n jleft]] (ss 1 (.b r.1) (λ_=> [.row 150 [.l E59 r.2.1, .l cq r.2.2.1, .l cM r.2.2.2.1, .l E98 r.2.2.2.2.1, .l E51 r.2.2.2.2.2.1, .l E53 r.2.2.2.2.2.2.1, .l E80 r.2.2.2.2.2.2.2.1, .n r.2.2.2.2.2.2.2.2.1, .l E48 r.2.2.2.2.2.2.2.2.2.1, .l E87 r.2.2.2.2.2.2.2.2.2.2.1, .l E95 r.2.2.2.2.2.2.2.2.2.2.2.1, .n r.2.2.2.2.2.2.2.2.2.2.2.2.1, .n r.2.2.2.2.2.2.2.2.2.2.2.2.2]]))){r:Bool×lN×lH×lP×lS×lL×lO×lT×Int×lK×lM×lC×Int×Int}(h:f73s F e f g j k m p w x y A jent jleft e1 B=some r):Ctr prog 73 [.pt 0 0, .d (.ag (R92 e1)), .n B] [.row 150 [.l E59 e, .l cq f, .l cM g, .l E98 j, .l E51 k, .l E53 m, .l E80 p, .n w, .l E48 x, .l E87 y, .l E95 A, .n jent, .n jleft]] (ss 1 (.b r.1) (λ_=> [.row 150 [.l E59 r.2.1, .l cq r.2.2.1, .l cM r.2.2.2.1, .l E98 r.2.2.2.2.1, .l E51 r.2.2.2.2.2.1, .l E53 r.2.2.2.2.2.2.1, .l E80 r.2.2.2.2.2.2.2.1, .n r.2.2.2.2.2.2.2.2.1, .l E48 r.2.2.2.2.2.2.2.2.2.1, .l E87 r.2.2.2.2.2.2.2.2.2.2.1, .l E95 r.2.2.2.2.2.2.2.2.2.2.2.1, .n r.2.2.2.2.2.2.2.2.2.2.2.2.1, .n r.2.2.2.2.2.2.2.2.2.2.2.2.2]])):=by
 unfold f73s at h
 refine cI func73 λ_ _ _ hmm=>?_
 refine Rcl 2 q (Bx q q q (Bd q q (Zs _) q (WL.s ((jU q q (by exact(show Les [.n B] (List.map AV.d [.i .i64 B]) from Lw))).does) (Zw q) q q (Rll 12 q (sS Z6 s3 Z2 (St q (Rll 6 q ?_)))))))
 obtain⟨V,X,h⟩:=aB h
 refine WL.inl (us:=[.pt 0 0, .d (.ag (R92 e1))]) (λrv st'=>(∃(G:Bool),∃(H:Int),∃(a:bc),∃(c21v100:Int),∃(c22v101:Int),∃(c23v102:Int),∃(c24v103:Int),V G H a c21v100 c22v101 c23v102 c24v103=some r∧Le rv (.tu [.d (.ag (R92 a)), .n H, .d (D.b G)])∧SLe st' [.row 150 [.l E59 e, .l cq f, .l cM g, .l E98 j, .l E51 k, .l E53 m, .l E80 p, .n w, .l E48 x, .l E87 y, .l E95 A, .n jent, .n (IntKind.i64.wrap (jleft - 1))], .row 148 [.pt 0 0], .row 92 [.d (D.i .u8 e1.kind), .d (D.i .u8 c21v100), .n c22v101, .n c23v102, .n c24v103, .n 0, .n 0, .n 0,sN]])) q q q q q ?_ (Zw q) q q ?_
 refine cI func106 λ_ _ _ _=>?_
 refine Rcl 2 q (Bd q q (Zs _) q (Al z92 q (Rll 9 q (sS Z6 s89 Z2 (St q (Rlc 2 q (Jn5 (λI _ _ _ _=> [(4, .pt 2 0),(5, .n I)]) (λ_ c21v106 c22v107 c23v108 c24v109=> [.row 150 [.l E59 e, .l cq f, .l cM g, .l E98 j, .l E51 k, .l E53 m, .l E80 p, .n w, .l E48 x, .l E87 y, .l E95 A, .n jent, .n (IntKind.i64.wrap (jleft - 1))], .row 148 [.pt 0 0], .row 92 [.d (D.i .u8 e1.kind), .d (D.i .u8 c21v106), .n c22v107, .n c23v108, .n c24v109, .n 0, .n 0, .n 0,sN]]) h (λ_ h=>?_) λI c21v106 c22v107 c23v108 c24v109 h=>?_)))))))
 refine Rcc 13 q (Ci h q (λh=>Rcl 4 q (sS Z6 s2 Z2 (St q (Rlx 2 q (En5 h))))) λh=>?_)
 refine Rcc 6 q (Ci h q (λh=>?_) λh=>?_)
 refine Rcc 2 q (av kR kR (Rq 8 q ?_))
 obtain⟨bk,Y,h⟩:=ae h
 refine WQ.q (YieldsQ.fn q q q q q (f68_c Y) ⟨(ak (Zs _)),Zl,Zl,Zl,Zt⟩) (Zw q) q q (Rq 2 q ?_)
 obtain⟨Z,Q,h⟩:=ae h
 apply WQ.grp 12 (t:=30) (d:=42) (z:=Z)
 exact q
 intro K
 have h:=cG Q K
 refine Rq 12 q ?_
 obtain rfl:=Oi h
 exact WQ.nil ⟨[_,_,_,_,_,_,_,_,_,_,_,_],q,q,q⟩
 intro K
 have h:=cH Q K
 refine Rq 8 q ?_
 obtain⟨bl,R,h⟩:=ae h
 refine WQ.qy (ah e27 q Zl q (af R) (an cA R) q) q q q (Rq 3 q ?_)
 obtain rfl:=Oi h
 exact WQ.nil ⟨[_,_,_,_,_,_,_,_,_,_,_,_],q,q,q⟩
 refine WQ.nil (Rxc 1 q (Ci h q (λh=>?_) λh=>?_))
 exact Rcl 3 q (sS Z6 s92 Z2 (St q (Rlx 8 q (ax (rs3 q (aZ q q a92 s92 q) (aR q) (aR q)) ⟨false,0,(bc.mk e1.kind 0 0 0 0 0 0 0 []),0,0,0,0,h,(Le.tu ⟨(ak ⟨Zl,Zl,Zl,Zl,Zl,Zl,Zl,Zl,Le.nil,Zt⟩),Zl,Zl,Zt⟩),⟨Zp,Zp,Zp,Zt⟩⟩))))
 refine Rcc 2 q ?_
 apply RT [_,_,_,_,_, .u,_, .u] [5,7] [[.row 150 [.l E59 e, .l cq f, .l cM g, .l E98 j, .l E51 k, .l E53 m, .l E80 p, .n w, .l E48 x, .l E87 y, .l E95 A, .n jent, .n (IntKind.i64.wrap (jleft - 1))], .row 148 [.pt 0 0], .row 92 [.d (D.i .u8 e1.kind), .d (D.i .u8 0), .n 0, .n e1.o, .n 0, .n 0, .n 0, .n 0,sN]],[.row 150 [.l E59 e, .l cq f, .l cM g, .l E98 j, .l E51 k, .l E53 m, .l E80 p, .n w, .l E48 x, .l E87 y, .l E95 A, .n jent, .n (IntKind.i64.wrap (jleft - 1))], .row 148 [.pt 0 0], .row 92 [.d (D.i .u8 e1.kind), .d (D.i .u8 0), .n 0, .n e1.o, .n e1.off, .n 0, .n 0, .n 0,sN]]] [p01 3,p10 0,u01 3,u10 2,p01 4,p20 4 1,q01 4 1,q20 6 3 1] kR kR q q
 refine Y2 ?_
 refine X2b ?_
 refine Y1 ?_
 refine zo (λ_=>sS Z6 s3 Z2 (aJ q q)) ?_
 refine Y1 ?_
 exact zo (λ_=>sS Z6 s3 Z2 (aJ q q)) Zt
 exact Rxx 1 q (En5 h)
 refine Rcc 6 q (Ci h q (λh=>?_) λh=>?_)
 refine Rcl 5 q (sS Z6 s2 Z2 (St q (Rlc 2 q (Jn1 (λL=> [(4, .pt 2 0),(5, .n 0),(6, .d (D.b L))]) (λ_=> [.row 150 [.l E59 e, .l cq f, .l cM g, .l E98 j, .l E51 k, .l E53 m, .l E80 p, .n w, .l E48 x, .l E87 y, .l E95 A, .n jent, .n (IntKind.i64.wrap (jleft - 1))], .row 148 [.pt 0 0], .row 92 [.d (D.i .u8 e1.kind), .d (D.i .u8 0), .n e1.n, .n 0, .n 0, .n 0, .n 0, .n 0,sN]]) h (λ_ h=>?_) λL h=>?_))))
 rcases cy (decide (e1.n≥0)) with C|C
 replace h:=cG h C
 apply RT [_,_,_,_,_,_,_,_,_,_,_,_,_, .u,_,_] [] [] [p01 4,p01 3,p10 1,p10 2,p10 3,p11 4 3,p20 5 4,p11 4 0,p20 7 4,p20 8 4,p20 9 4,p30 6 10 4,p20 4 11,p11 0 4,p00,p10 12] kR kR q q
 refine Y4 ?_
 refine zo (rc C) ?_
 refine Y8 ?_
 refine zo (λ_=>sS Z6 s92 Z2 (aJ q q)) ?_
 exact Y2 Zt
 exact En1 h
 replace h:=cH h C
 apply RT [_,_,_,_,_,_,_,_,_,_,_,_,_, .u,_,_] [] [] [p01 4,p01 3,p10 1,p10 2,p10 3,p10 4,p10 4,p10 4,p10 4,p10 4,p10 4,p10 4,p20 4 11,p11 0 4,p00,p10 12] kR kR q q
 refine Y4 ?_
 refine zo (rc C) ?_
 refine Y8 ?_
 refine zo (λ_=>sS Z6 s92 Z2 (aJ q q)) ?_
 exact Y2 Zt
 exact En1 h
 exact Rcx 3 q (ax (rs3 q (aZ q q a92 s92 q) (aR q) (aR q)) ⟨L,0,(bc.mk e1.kind 0 e1.n 0 0 0 0 0 []),0,e1.n,0,0,h,(Le.tu ⟨(ak ⟨Zl,Zl,Zl,Zl,Zl,Zl,Zl,Zl,Le.nil,Zt⟩),Zl,Zl,Zt⟩),⟨Zp,Zp,Zp,Zt⟩⟩)
 refine Rcc 6 q (Ci h q (λh=>Rcl 2 q (sS Z6 s90 Z2 (St q (Rlx 3 q (En5 h))))) λh=>?_)
 refine Rcc 6 q (Ci h q (λh=>?_) λh=>?_)
 exact Rcl 3 q (Zq (gG q q q) q (Zq (eU q q q) q (Rl 1 q (sS Z6 s90 Z2 (St q (Rlx 3 q (En5 h)))))))
 refine Jn1 (λS=> [(4, .pt 2 0),(78, .d (D.b S))]) (λ_=> [.row 150 [.l E59 e, .l cq f, .l cM g, .l E98 j, .l E51 k, .l E53 m, .l E80 p, .n w, .l E48 x, .l E87 y, .l E95 A, .n jent, .n (IntKind.i64.wrap (jleft - 1))], .row 148 [.pt 0 0], .row 92 [.d (D.i .u8 e1.kind), .d (D.i .u8 0), .n 0, .n 0, .n 0, .n 0, .n 0, .n 0,sN]]) h (λ_ h=>?_) (λS h=>?_)
 exact Rcc 6 q (Ci h q (λh=>Rcx 1 q (En1 h)) λh=>Rcx 4 q (En1 h))
 refine Ci h q (λh=>?_) (λh=>?_)
 exact Rcx 4 q (En5 h)
 exact Rcl 3 q (sS Z6 s92 Z2 (St q (Rlx 7 q (ax (rs3 q (aZ q q a92 s92 q) (aR q) (aR q)) ⟨false,0,(bc.mk e1.kind 0 0 0 0 0 0 0 []),0,0,0,0,h,(Le.tu ⟨(ak ⟨Zl,Zl,Zl,Zl,Zl,Zl,Zl,Zl,Le.nil,Zt⟩),Zl,Zl,Zt⟩),⟨Zp,Zp,Zp,Zt⟩⟩))))
 exact Rcl 4 q (sS Z6 s92 Z2 (St q (Rlx 5 q (ax (rs3 q (aZ q q a92 s92 q) (aR q) (aR q)) ⟨true,I,(bc.mk e1.kind c21v106 c22v107 c23v108 c24v109 0 0 0 []),c21v106,c22v107,c23v108,c24v109,h,(Le.tu ⟨(ak ⟨Zl,Zl,Zl,Zl,Zl,Zl,Zl,Zl,Le.nil,Zt⟩),Zl,Zl,Zt⟩),⟨Zp,Zp,Zp,Zt⟩⟩))))
 rintro rv M ⟨G,H,a,c21v100,c22v101,c23v102,c24v103,h,hr,hst⟩
 subst X
 dsimp only at h
 refine WL.cast 20 q hr (WL.weak hst (Rl 4 q (Al z92 q (sS Z6 s92 Z2 (St q (Rl 2 q (Zn (Rcl 9 q ?_))))))))
 refine OG 3 29 32 3 3 ?_
 refine Rl 1 q ?_
 refine OG 3 33 36 3 3 ?_
 refine Rl 1 q ?_
 apply WL.or 6 (t:=37) (d:=43)
 exact q
 intro bs
 exact Rl 2 q (Zy (ab E92 e1.l e85 q q Zl) q q q (Rl 3 q (WL.nil ⟨q,[_,_,_,_,_,_],q,q,q⟩)))
 exact Rn 6 6
 refine Rl 1 q ?_
 refine OG 6 44 50 6 6 ?_
 refine Rl 1 q ?_
 refine OG 6 51 57 6 6 ?_
 refine Rl 1 q ?_
 refine OG 6 58 64 6 6 ?_
 refine Rl 1 q ?_
 refine OG 6 65 71 6 6 ?_
 refine Rl 1 q ?_
 refine OG 4 72 76 4 4 ?_
 refine Rl 1 q ?_
 refine OG 4 77 81 4 4 ?_
 refine Rl 1 q ?_
 refine OG 4 82 86 4 4 ?_
 refine Rlc 2 q (Ci h q (λh=>?_) λh=>?_)
 refine Rcx 7 q ?_
 obtain rfl:=Oi h
 exact j0 0 (rs1 q (aR q)) Zl q ⟨Zp,Zt⟩
 refine Rcl 7 q ?_
 obtain⟨a0,a1,h⟩:=aB h
 refine WL.inl (us:=[.l E92 e1.l, .fn (.func 108) [] [.pt 1 0, .d (.pc (E3 B))]]) (λrv st'=>(∃(N:Bool),∃(c00v120:lN),∃(c01v121:lH),∃(c02v122:lP),∃(c03v123:lS),∃(c04v124:lL),∃(c05v125:lO),∃(c06v126:lT),∃(c07v127:Int),∃(c08v128:lK),∃(c09v129:lM),∃(c010v130:lC),∃(c011v131:Int),∃(c012v132:Int),a0 N c00v120 c01v121 c02v122 c03v123 c04v124 c05v125 c06v126 c07v127 c08v128 c09v129 c010v130 c011v131 c012v132=some r∧Le rv (.d (D.b N))∧SLe st' [.row 150 [.l E59 c00v120, .l cq c01v121, .l cM c02v122, .l E98 c03v123, .l E51 c04v124, .l E53 c05v125, .l E80 c06v126, .n c07v127, .l E48 c08v128, .l E87 c09v129, .l E95 c010v130, .n c011v131, .n c012v132], .row 148 [.pt 0 0], .row 92 [.d (D.i .u8 e1.kind), .d (D.i .u8 c21v100), .n c22v101, .n c23v102, .n c24v103, .n 0, .n 0, .n 0,sN], .row 92 [.d (D.i .u8 a.kind), .d (D.i .u8 a.op), .n a.n, .n a.o, .n a.off, .n a.len, .n a.lo, .n a.hi, .l E92 a.l]])) q q q q q ?_ (Zw q) q q ?_
 refine cI func107 λ_ _ _ _=>?_
 refine Rcl 9 q ?_
 obtain⟨T,a6,h⟩:=aB h
 refine WL.inl (us:=[.l E92 e1.l, .fn (.func 108) [] [.pt 1 0, .d (.pc (E3 B))]]) (λrv st'=>(∃(E:Int),∃(c00v136:lN),∃(c01v137:lH),∃(c02v138:lP),∃(c03v139:lS),∃(c04v140:lL),∃(c05v141:lO),∃(c06v142:lT),∃(c07v143:Int),∃(c08v144:lK),∃(c09v145:lM),∃(c010v146:lC),∃(c011v147:Int),∃(c012v148:Int),T E c00v136 c01v137 c02v138 c03v139 c04v140 c05v141 c06v142 c07v143 c08v144 c09v145 c010v146 c011v147 c012v148=some r∧Le rv (.n E)∧SLe st' [.row 150 [.l E59 c00v136, .l cq c01v137, .l cM c02v138, .l E98 c03v139, .l E51 c04v140, .l E53 c05v141, .l E80 c06v142, .n c07v143, .l E48 c08v144, .l E87 c09v145, .l E95 c010v146, .n c011v147, .n c012v148], .row 148 [.pt 0 0], .row 92 [.d (D.i .u8 e1.kind), .d (D.i .u8 c21v100), .n c22v101, .n c23v102, .n c24v103, .n 0, .n 0, .n 0,sN], .row 92 [.d (D.i .u8 a.kind), .d (D.i .u8 a.op), .n a.n, .n a.o, .n a.off, .n a.len, .n a.lo, .n a.hi, .l E92 a.l]])) q q q q q ?_ (Zw q) q q ?_
 refine cI func125 λ_ _ _ _=>?_
 refine Rcc 5 q (Jn13 (λ_ _ _ _ _ _ _ _ _ _ _ _ _=> []) (λc00v150 c01v151 c02v152 c03v153 c04v154 c05v155 c06v156 c07v157 c08v158 c09v159 c010v160 c011v161 c012v162=> [.row 150 [.l E59 c00v150, .l cq c01v151, .l cM c02v152, .l E98 c03v153, .l E51 c04v154, .l E53 c05v155, .l E80 c06v156, .n c07v157, .l E48 c08v158, .l E87 c09v159, .l E95 c010v160, .n c011v161, .n c012v162], .row 148 [.pt 0 0], .row 92 [.d (D.i .u8 e1.kind), .d (D.i .u8 c21v100), .n c22v101, .n c23v102, .n c24v103, .n 0, .n 0, .n 0,sN], .row 92 [.d (D.i .u8 a.kind), .d (D.i .u8 a.op), .n a.n, .n a.o, .n a.off, .n a.len, .n a.lo, .n a.hi, .l E92 a.l]]) h (λa7 h=>?_) λc00v150 c01v151 c02v152 c03v153 c04v154 c05v155 c06v156 c07v157 c08v158 c09v159 c010v160 c011v161 c012v162 h=>?_)
 refine Rcl 3 q (Zq (ab E92 e1.l e85 q q Zl) q (Rlc 4 q (Ln14 (λO _ _ _ _ _ _ _ _ _ _ _ _ _=> [(0, .l E92 e1.l),(1, .fn (.func 108) [] [.pt 1 0, .d (.pc (E3 B))]),(7, .n (List.length e1.l:Int)),(8, .n O)]) (λ_ c00v179 c01v180 c02v181 c03v182 c04v183 c05v184 c06v185 c07v186 c08v187 c09v188 c010v189 c011v190 c012v191=> [.row 150 [.l E59 c00v179, .l cq c01v180, .l cM c02v181, .l E98 c03v182, .l E51 c04v183, .l E53 c05v184, .l E80 c06v185, .n c07v186, .l E48 c08v187, .l E87 c09v188, .l E95 c010v189, .n c011v190, .n c012v191], .row 148 [.pt 0 0], .row 92 [.d (D.i .u8 e1.kind), .d (D.i .u8 c21v100), .n c22v101, .n c23v102, .n c24v103, .n 0, .n 0, .n 0,sN], .row 92 [.d (D.i .u8 a.kind), .d (D.i .u8 a.op), .n a.n, .n a.o, .n a.off, .n a.len, .n a.lo, .n a.hi, .l E92 a.l]]) (f73s_l1 F e1 B T a7) h (λ_ _ _ _ _ _ _ _ _ _ _ _ _ _ h=>by rw[f73s_l1] at h;cases h) λn O c00v179 c01v180 c02v181 c03v182 c04v183 c05v184 c06v185 c07v186 c08v187 c09v188 c010v189 c011v190 c012v191 h=>?_)))
 rw[f73s_l1] at h
 refine Rcc 6 q (Ci h q (λh=>?_) λh=>?_)
 refine Rcl 15 q (Ix h e85 jX q Zl q q λa8 _ h=>(Rl 1 q ?_))
 obtain⟨a',bb,h⟩:=aB h
 refine WL.inl (us:=[.d (.ag (R92 a8)), .pt 1 0, .d (.pc (E3 B))]) (λrv st'=>(∃(P:Bool),∃(c00v209:lN),∃(c01v210:lH),∃(c02v211:lP),∃(c03v212:lS),∃(c04v213:lL),∃(c05v214:lO),∃(c06v215:lT),∃(c07v216:Int),∃(c08v217:lK),∃(c09v218:lM),∃(c010v219:lC),∃(c011v220:Int),∃(c012v221:Int),a' P c00v209 c01v210 c02v211 c03v212 c04v213 c05v214 c06v215 c07v216 c08v217 c09v218 c010v219 c011v220 c012v221=some r∧Le rv (.d (D.b P))∧SLe st' [.row 150 [.l E59 c00v209, .l cq c01v210, .l cM c02v211, .l E98 c03v212, .l E51 c04v213, .l E53 c05v214, .l E80 c06v215, .n c07v216, .l E48 c08v217, .l E87 c09v218, .l E95 c010v219, .n c011v220, .n c012v221], .row 148 [.pt 0 0], .row 92 [.d (D.i .u8 e1.kind), .d (D.i .u8 c21v100), .n c22v101, .n c23v102, .n c24v103, .n 0, .n 0, .n 0,sN], .row 92 [.d (D.i .u8 a.kind), .d (D.i .u8 a.op), .n a.n, .n a.o, .n a.off, .n a.len, .n a.lo, .n a.hi, .l E92 a.l]])) q q q q q ?_ (Zw q) q q ?_
 refine cI func108 λ_ _ _ _=>?_
 refine Rcl 2 q (Bd q q (Zs _) q (Rll 9 q ?_))
 obtain⟨c,bd,h⟩:=ae h
 refine rf [0] q q q q (U _ _ _ _ _ _ _ _ _ _ _ _ _ _ _ _ bd) Lw q dC (Re q) ⟨q,Zt⟩ q q (λ_=>q) (λ_=>(Re q)) (Zw q) q q (λb0=>?_)
 exact Rlx 5 q (ax (rs1 q (aR q)) ⟨(!c.1),c.2.1,c.2.2.1,c.2.2.2.1,c.2.2.2.2.1,c.2.2.2.2.2.1,c.2.2.2.2.2.2.1,c.2.2.2.2.2.2.2.1,c.2.2.2.2.2.2.2.2.1,c.2.2.2.2.2.2.2.2.2.1,c.2.2.2.2.2.2.2.2.2.2.1,c.2.2.2.2.2.2.2.2.2.2.2.1,c.2.2.2.2.2.2.2.2.2.2.2.2.1,c.2.2.2.2.2.2.2.2.2.2.2.2.2,h,Zl,⟨Zp,Zp,Zp,Zp,Zt⟩⟩)
 rintro rv M ⟨P,c00v209,c01v210,c02v211,c03v212,c04v213,c05v214,c06v215,c07v216,c08v217,c09v218,c010v219,c011v220,c012v221,h,hr,hst⟩
 subst bb
 dsimp only at h
 refine WL.cast 16 q hr (WL.weak hst (Zn (Ci h q (λh=>?_) λh=>?_)))
 exact Rcx 12 q (ax (rs1 q (aR q)) ⟨O,c00v209,c01v210,c02v211,c03v212,c04v213,c05v214,c06v215,c07v216,c08v217,c09v218,c010v219,c011v220,c012v221,h,Zl,⟨Zp,Zp,Zp,Zp,Zt⟩⟩)
 exact Rcx 7 q (de ⟨_,⟨_,_,_,_,_,_,_,_,_,_,_,_,_,_,h,Sb,Tv⟩,Nat.lt_succ_self _⟩)
 exact Rcx 4 q (de ⟨_,_,_,_,_,_,_,_,_,_,_,_,_,h,Sb,Tv⟩)
 exact Rcx 6 q (ax (rs1 q (aR q)) ⟨(-1),c00v150,c01v151,c02v152,c03v153,c04v154,c05v155,c06v156,c07v157,c08v158,c09v159,c010v160,c011v161,c012v162,h,Zl,⟨Zp,Zp,Zp,Zp,Zt⟩⟩)
 rintro rv M ⟨E,c00v136,c01v137,c02v138,c03v139,c04v140,c05v141,c06v142,c07v143,c08v144,c09v145,c010v146,c011v147,c012v148,h,hr,hst⟩
 subst a6
 dsimp only at h
 exact WL.cast 7 q hr (WL.weak hst (Rl 2 q (Zn (Rcx 1 q (ax (rs1 q (aR q)) ⟨(decide (E≥0)),c00v136,c01v137,c02v138,c03v139,c04v140,c05v141,c06v142,c07v143,c08v144,c09v145,c010v146,c011v147,c012v148,h,Zl,⟨Zp,Zp,Zp,Zp,Zt⟩⟩)))))
 rintro rv M ⟨N,c00v120,c01v121,c02v122,c03v123,c04v124,c05v125,c06v126,c07v127,c08v128,c09v129,c010v130,c011v131,c012v132,h,hr,hst⟩
 subst a1
 dsimp only at h
 refine WL.cast 90 q hr (WL.weak hst (Rl 2 q (Zn (Rcx 1 q ?_))))
 obtain rfl:=Oi h
 exact j0 0 (rs1 q (aR q)) Zl q ⟨Zp,Zt⟩

theorem f73_c:∀(n:Nat)(a:lN)(c:lH)(e:lP)(f:lS)(g:lL)(j:lO)(k:lT)(m:Int)(p:lK)(t:lM)(w:lC)(jent:Int)(jleft:Int)(x1:bc)(x2:Int){r:Bool×lN×lH×lP×lS×lL×lO×lT×Int×lK×lM×lC×Int×Int},f73 n a c e f g j k m p t w jent jleft x1 x2=some r→Ctr prog 73 [.pt 0 0, .d (.ag (R92 x1)), .n x2] [.row 150 [.l E59 a, .l cq c, .l cM e, .l E98 f, .l E51 g, .l E53 j, .l E80 k, .n m, .l E48 p, .l E87 t, .l E95 w, .n jent, .n jleft]] (ss 1 (.b r.1) (λ_=> [.row 150 [.l E59 r.2.1, .l cq r.2.2.1, .l cM r.2.2.2.1, .l E98 r.2.2.2.2.1, .l E51 r.2.2.2.2.2.1, .l E53 r.2.2.2.2.2.2.1, .l E80 r.2.2.2.2.2.2.2.1, .n r.2.2.2.2.2.2.2.2.1, .l E48 r.2.2.2.2.2.2.2.2.2.1, .l E87 r.2.2.2.2.2.2.2.2.2.2.1, .l E95 r.2.2.2.2.2.2.2.2.2.2.2.1, .n r.2.2.2.2.2.2.2.2.2.2.2.2.1, .n r.2.2.2.2.2.2.2.2.2.2.2.2.2]]))
 |0,_,_,_,_,_,_,_,_,_,_,_,_,_,_,_,_,h=>by cases h
 |n+1,a,c,e,f,g,j,k,m,p,t,w,jent,jleft,x1,x2,_,h=>f73s_c (f73 n) a c e f g j k m p t w jent jleft x1 x2 (λa c e f g j k m p t w jent jleft x1 x2 _ h=>f73_c n a c e f g j k m p t w jent jleft x1 x2 h) h

theorem f47_c{t0:bP}{r:Bool}(h:f47 t0=some r):Pu prog 47 [.ag (bU t0)] (.b r):=by
 unfold f47 at h
 refine fI func47 λ_ _=>?_
 refine Rcl 2 q (Bd q q (Zs _) q (Rlc 3 q (Jn0 [(1, .d (.pc (bU t0)))] [] h (λf h=>?_) λh=>?_)))
 refine Rcl 5 q (Zq (ab E87 t0.text.prots e30 q q Zl) q (Rlc 4 q (Ln1 (λc=> [(1, .d (.pc (bU t0))),(10, .l E87 t0.text.prots),(11, .n (List.length t0.text.prots:Int)),(12, .n c)]) (λ_=> []) (f47_l1 t0 f) h (λ_ h=>by rw[f47_l1] at h;cases h) λn c h=>?_)))
 rw[f47_l1] at h
 refine Rcc 6 q (Ci h q (λh=>?_) λh=>?_)
 refine Rcc 2 q (Jn2 (λ_ _=> [(1, .d (.pc (bU t0))),(10, .l E87 t0.text.prots),(11, .n (List.length t0.text.prots:Int)),(12, .n c)]) (λc00v60 c01v61=> [.row 87 [.n c00v60, .l E92 c01v61]]) h (λg h=>?_) λc00v60 c01v61 h=>?_)
 refine Rcl 3 q (Ix h e30 nG q Zl q q λa _ h=>(Rl 1 q (Al z87 q (sS Z6 s87 Z2 (Rll 9 q ?_)))))
 refine OG 4 19 23 4 4 ?_
 refine Rl 1 q ?_
 apply WL.or 5 (t:=24) (d:=29)
 exact q
 intro k
 exact Rl 2 q (Zy (ab E92 a.barriers e85 q q Zl) q q q (Rl 2 q (WL.nil ⟨q,[_,_,_,_,_],q,q,q⟩)))
 exact Rn 5 5
 refine Rlc 2 q (Ci h q (λh=>Rcx 12 q (FA h)) λh=>?_)
 refine Rcl 6 q (Zq (ab E92 a.barriers e85 q q Zl) q (Rlc 4 q (Ln1 (λe=> [(1, .d (.pc (bU t0))),(4, .pt 0 0),(10, .l E87 t0.text.prots),(11, .n (List.length t0.text.prots:Int)),(12, .n c),(31, .l E92 a.barriers),(32, .n (List.length a.barriers:Int)),(33, .n e)]) (λ_=> [.row 87 [.n a.ceiling, .l E92 a.barriers]]) (f47_l2 t0 g a) h (λ_ h=>by rw[f47_l2] at h;cases h) λna e h=>?_)))
 rw[f47_l2] at h
 refine Rcc 6 q (Ci h q (λh=>?_) λh=>?_)
 refine Rcl 6 q (Ix h e85 jX q Zl q q λm _ h=>(Rl 1 q (Al z92 q (sS Z6 s92 Z2 (Rll 7 q (Zq (ab E92 a.barriers e85 q q Zl) q (Zq (ac p150 z150 q q) q (Bx q q q (Rll 7 q ?_)))))))))
 obtain⟨p,j,h⟩:=ae h
 refine rf [2] q q q q (f73_c 66 _ _ _ _ _ _ _ _ _ _ _ _ _ _ _ j) ⟨Zl,(ak (Zs _)),Zl,Zt⟩ q dC (Re q) ⟨q,Zt⟩ q q (λ_=>q) (λ_=>(Re q)) (Zw q) q q (λw=>?_)
 refine Rlc 3 q (Ci h q (λh=>Rcx 15 q (FA h)) λh=>?_)
 exact Rcx 7 q (WE.drop 1 (env':=[(1, .d (.pc (bU t0))),(4, .pt 0 0),(10, .l E87 t0.text.prots),(11, .n (List.length t0.text.prots:Int)),(12, .n c),(31, .l E92 a.barriers),(32, .n (List.length a.barriers:Int)),(33, .n (IntKind.i64.wrap (e+1)))]) Sb q q (Nat.zero_le _) (Fn1 h))
 exact Rcx 5 q (En2 h)
 exact Rcx 4 q (WE.drop 0 (env':=[(1, .d (.pc (bU t0))),(10, .l E87 t0.text.prots),(11, .n (List.length t0.text.prots:Int)),(12, .n (IntKind.i64.wrap (c+1)))]) Sb q q (Nat.zero_le _) (Fn1 h))
 exact Rcx 4 q (En0 h)
 exact Rcl 5 q (Zq (ab E87 t0.text.prots e30 q q Zl) q (Rlx 5 q (FA h)))

theorem f110_c{n0:Int}{a:bP}{c:Int}{r:Bool}(h:f110 n0 a c=some r):Pu prog 110 [.i .i64 n0, .pc (bU a), .pc (E3 c)] (.b r):=by
 unfold f110 at h
 refine fI func110 λ_ _=>?_
 refine Rcl 10 q ?_
 obtain⟨f,e,h⟩:=ae h
 exact wF Z4 (f68_c e) Lw Z3 (Rlx 4 q (FA h))

theorem f76_c{t0:bP}{a:Int}{a2:jb}{r:Bool}(h:f76 t0 a a2=some r):Pu prog 76 [.ag (bU t0), .i .i64 a, .ag (qs a2)] (.b r):=by
 unfold f76 at h
 refine fI func76 λ_ _=>?_
 refine Rcl 2 q (Bd q q (Zs _) q (WL.s ((jU q q (by exact(show Les [.n a] (List.map AV.d [.i .i64 a]) from Lw))).does) (Zw q) q q (Bd q q (Zs _) q (Rll 15 q (wF Z4 (f69_c) Lw Z3 (Rl 2 q ?_))))))
 obtain⟨e,f,h⟩:=ae h
 refine Gg 11 14 25 e f (λh=>?_) (λh=>?_) ?_
 exact On 11 11 h
 refine Rl 4 q ?_
 obtain⟨g,j,h⟩:=ae h
 refine Gg 6 18 24 g j (λh=>?_) (λh=>?_) ?_
 refine Rl 3 q ?_
 obtain⟨x,k,h⟩:=ae h
 exact WL.fn q q q q (f110_c k) Lw (aG q q q) q q (On 2 6 h)
 exact On 6 6 h
 exact On 1 6 h
 refine Rlc 2 q (Ci h q (λh=>Rcx 7 q (FA h)) λh=>?_)
 refine Rcc 16 q (Ci h q (λh=>?_) λh=>?_)
 refine Rcl 6 q ?_
 refine AG 4 33 37 4 4 ?_
 refine Rl 1 q ?_
 refine AG 4 38 42 4 4 ?_
 exact Rlx 6 q (FA h)
 refine Jn1 (λc=> [(5, .d (.pc (qs a2))),(7, .fn (.func 110) [] [.d (.pc (bU t0)), .d (.pc (E3 a))]),(43, .d (D.b c))]) (λ_=> []) h (λ_ h=>?_) (λc h=>?_)
 exact Rcc 6 q (Ci h q (λh=>Rcx 1 q (En1 h)) λh=>Rcx 4 q (En1 h))
 refine Ci h q (λh=>?_) (λh=>?_)
 refine Rcl 6 q ?_
 obtain⟨m,p,h⟩:=ae h
 refine Gg 5 49 54 m p (λh=>?_) (λh=>?_) ?_
 refine Rl 3 q ?_
 obtain⟨y,w,h⟩:=ae h
 exact WL.fn q q q q (f110_c w) Lw (aG q q q) q q (On 1 5 h)
 exact On 5 5 h
 exact Rlx 6 q (FA h)
 refine Rcl 9 q ?_
 apply WL.and 7 (t:=58) (d:=65)
 exact q
 intro A
 exact Rl 4 q (Zy (vK q q q) q q q (Rl 2 q (WL.nil ⟨q,[_,_,_,_,_,_,_],q,q,q⟩)))
 exact Rn 7 7
 exact Rlx 4 q (FA h)

theorem f48_c{t0:bP}{r:Bool}(h:f48 t0=some r):Pu prog 48 [.ag (bU t0)] (.b r):=by
 unfold f48 at h
 refine fI func48 λ_ _=>?_
 refine Rcl 2 q (Bd q q (Zs _) q (Rll 9 q (Zq (ab E98 t0.text.selects e25 q q Zl) q (Rlc 3 q (Ci h q (λh=>?_) λh=>?_)))))
 exact Rcx 7 q (FA h)
 refine Rcc 2 q (Jn0 [] [] h (λp h=>?_) λh=>?_)
 refine Rcl 5 q (Zq (ab E98 t0.text.selects e25 q q Zl) q (Rlc 4 q (Ln1 (λe=> [(1, .d (.pc (bU t0))),(12, .l E98 t0.text.selects),(13, .n (List.length t0.text.selects:Int)),(14, .n e)]) (λ_=> []) (f48_l1 t0 p) h (λ_ h=>by rw[f48_l1] at h;cases h) λn e h=>?_)))
 rw[f48_l1] at h
 refine Rcc 6 q (Ci h q (λh=>?_) λh=>?_)
 refine Rcl 6 q (Ix h e25 nF q Zl q q λa _ h=>(Rl 1 q (Al z98 q (sS Z6 s98 Z2 (Rll 7 q (Zq (ab eo a.alts e96 q q Zl) q (Rl 2 q ?_)))))))
 apply WL.or 5 (t:=22) (d:=27)
 exact q
 intro H
 exact Rl 2 q (Zy (ab eo a.alts e96 q q Zl) q q q (Rl 2 q (WL.nil ⟨q,[_,_,_,_,_],q,q,q⟩)))
 exact Rn 5 5
 refine Rl 1 q ?_
 refine OG 4 28 32 4 4 ?_
 refine Rl 1 q ?_
 apply WL.or 8 (t:=33) (d:=41)
 exact q
 intro I
 exact Rl 5 q (Zy (ab E53 t0.text.objs e27 q q Zl) q q q (Rl 2 q (WL.nil ⟨q,[_,_,_,_,_,_,_,_],q,q,q⟩)))
 exact Rn 8 8
 refine Rl 1 q ?_
 apply WL.or 11 (t:=42) (d:=53)
 exact q
 intro K
 refine Rl 4 q ?_
 apply WL.and 6 (t:=46) (d:=52)
 exact q
 intro L
 exact Rl 3 q (WL.fn q q q q (f69_c) Lw (aG q q q) q q (Rl 2 q (WL.nil ⟨q,[_,_,_,_,_,_],q,q,q⟩)))
 exact Rn 6 6
 exact Rn 1 6
 exact Rn 11 11
 refine Rlc 2 q (Ci h q (λh=>Rcx 12 q (FA h)) λh=>?_)
 refine Rcl 7 q ?_
 obtain⟨w,x,h⟩:=aB h
 refine WL.inl (us:=[.l eo a.alts, .fn (.func 75) [] [.d (.pc (bU t0)), .pt 0 0]]) (λrv st'=>(∃(f:Bool),w f=some r∧Le rv (.d (D.b f))∧SLe st' [.row 98 [.l eo a.alts, .n a.obj, .n a.else_]])) q q q q q ?_ (Zw q) q q ?_
 refine cI func74 λ_ _ _ _=>?_
 refine Rcl 9 q ?_
 obtain⟨k,y,h⟩:=aB h
 refine WL.inl (us:=[.l eo a.alts, .fn (.func 75) [] [.d (.pc (bU t0)), .pt 0 0]]) (λrv st'=>(∃(c:Int),k c=some r∧Le rv (.n c)∧SLe st' [.row 98 [.l eo a.alts, .n a.obj, .n a.else_]])) q q q q q ?_ (Zw q) q q ?_
 refine cI func109 λ_ _ _ M=>?_
 refine Rcc 5 q (Jn0 [] [.row 98 [.l eo a.alts, .n a.obj, .n a.else_]] h (λA h=>?_) λh=>?_)
 refine Rcl 3 q (Zq (ab eo a.alts e96 q q Zl) q (Rlc 4 q (Ln1 (λg=> [(0, .l eo a.alts),(1, .fn (.func 75) [] [.d (.pc (bU t0)), .pt 0 0]),(7, .n (List.length a.alts:Int)),(8, .n g)]) (λ_=> [.row 98 [.l eo a.alts, .n a.obj, .n a.else_]]) (f48_l2 t0 a k A) h (λ_ h=>by rw[f48_l2] at h;cases h) λna g h=>?_)))
 rw[f48_l2] at h
 refine Rcc 6 q (Ci h q (λh=>?_) λh=>?_)
 refine Rcl 15 q (Ix h e96 nJ q Zl q q λB _ h=>(Rl 1 q ?_))
 obtain⟨C,E,h⟩:=aB h
 refine WL.inl (us:=[.d (.ag (qs B)), .d (.pc (bU t0)), .pt 0 0]) (λrv st'=>(∃(j:Bool),C j=some r∧Le rv (.d (D.b j))∧SLe st' [.row 98 [.l eo a.alts, .n a.obj, .n a.else_]])) q q q q q ?_ (Zw q) q q ?_
 refine cI func75 λ_ _ _ N=>?_
 refine Rcl 2 q (Bd q q (Zs _) q (Rll 9 q ?_))
 obtain⟨F,G,h⟩:=ae h
 exact wF Z4 (f76_c G) Lw Z3 (Rlx 5 q (ax (rs1 q (aR q)) ⟨(!F),h,Zl,⟨Zp,Zt⟩⟩))
 rintro rv m ⟨j,h,hr,hst⟩
 subst E
 dsimp only at h
 refine WL.cast 16 q hr (WL.weak hst (Zn (Ci h q (λh=>?_) λh=>?_)))
 exact Rcx 12 q (ax (rs1 q (aR q)) ⟨g,h,Zl,⟨Zp,Zt⟩⟩)
 exact Rcx 7 q (Fn1 h)
 exact Rcx 4 q (En0 h)
 exact Rcx 6 q (ax (rs1 q (aR q)) ⟨(-1),h,Zl,⟨Zp,Zt⟩⟩)
 rintro rv m ⟨c,h,hr,hst⟩
 subst y
 dsimp only at h
 exact WL.cast 7 q hr (WL.weak hst (Rl 2 q (Zn (Rcx 1 q (ax (rs1 q (aR q)) ⟨(decide (c≥0)),h,Zl,⟨Zp,Zt⟩⟩)))))
 rintro rv m ⟨f,h,hr,hst⟩
 subst x
 dsimp only at h
 refine WL.cast 57 q hr (WL.weak hst (Zn (Ci h q (λh=>?_) λh=>?_)))
 exact Rcx 11 q (FA h)
 exact Rcx 7 q (WE.drop 0 (env':=[(1, .d (.pc (bU t0))),(12, .l E98 t0.text.selects),(13, .n (List.length t0.text.selects:Int)),(14, .n (IntKind.i64.wrap (e+1)))]) Sb q q (Nat.zero_le _) (Fn1 h))
 exact Rcx 4 q (En0 h)
 exact Rcx 6 q (FA h)

theorem f77_c{h0:bB}{a1:Int}:Pu prog 77 [.ag (u7 h0), .i .i64 a1] (.b (f77 h0 a1)):=by
 generalize h:f77 h0 a1=r
 unfold f77 at h
 refine fI func77 λ_ _=>?_
 refine Rcl 2 q (Bd q q (Zs _) q (Rll 10 q ?_))
 refine AG 5 9 14 5 5 ?_
 exact Rlx 4 q (FB h)

theorem f49_c{t0:bP}{r:Bool}(h:f49 t0=some r):Pu prog 49 [.ag (bU t0)] (.b r):=by
 unfold f49 at h
 refine fI func49 λ_ _=>?_
 refine Rcl 2 q (Bd q q (Zs _) q (Rll 9 q (Zq (ab cq t0.text.handlers e23 q q Zl) q (Rlc 3 q (Ci h q (λh=>?_) λh=>?_)))))
 exact Rcx 7 q (FA h)
 refine Rcc 2 q (Jn0 [] [] h (λf h=>?_) λh=>?_)
 refine Rcl 5 q (Zq (ab cq t0.text.handlers e23 q q Zl) q (Rlc 4 q (Ln1 (λa=> [(1, .d (.pc (bU t0))),(15, .l cq t0.text.handlers),(16, .n (List.length t0.text.handlers:Int)),(17, .n a)]) (λ_=> []) (f49_l1 t0 f) h (λ_ h=>by rw[f49_l1] at h;cases h) λn a h=>?_)))
 rw[f49_l1] at h
 refine Rcc 6 q (Ci h q (λh=>?_) λh=>?_)
 refine Rcc 2 q (Jn4 (λ_ _ _ _=> [(1, .d (.pc (bU t0))),(15, .l cq t0.text.handlers),(16, .n (List.length t0.text.handlers:Int)),(17, .n a)]) (λc00v99 c01v100 c02v101 c03v102=> [.row 104 [.n c00v99, .n c01v100, .n c02v101, .d (D.b c03v102)]]) h (λg h=>?_) λc00v99 c01v100 c02v101 c03v102 h=>?_)
 refine Rcl 4 q (Ix h e23 ir q Zl q q λc _ h=>(Rl 1 q (Al ub q (Rl 1 q (sS Z6 ul Z2 (Rll 9 q ?_))))))
 refine OG 6 25 31 6 6 ?_
 refine Rl 1 q ?_
 apply WL.or 8 (t:=32) (d:=40)
 exact q
 intro k
 exact Rl 5 q (Zy (ab E59 t0.text.insns e22 q q Zl) q q q (Rl 2 q (WL.nil ⟨q,[_,_,_,_,_,_,_,_],q,q,q⟩)))
 exact Rn 8 8
 refine Rl 1 q ?_
 apply WL.or 6 (t:=41) (d:=47)
 exact q
 intro m
 exact Rl 3 q (WL.fn q q q q (f69_c) Lw (aG q q q) q q (Rl 2 q (WL.nil ⟨q,[_,_,_,_,_,_],q,q,q⟩)))
 exact Rn 6 6
 refine Rl 1 q ?_
 apply WL.or 5 (t:=48) (d:=53)
 exact q
 intro p
 exact Rl 3 q (WL.fn q q q q (f77_c) ⟨(ak (Zs _)),Zl,Zt⟩ (aG q q q) q q (Rl 1 q (WL.nil ⟨q,[_,_,_,_,_],q,q,q⟩)))
 exact Rn 5 5
 refine Rlc 2 q (Ci h q (λh=>Rcx 12 q (FA h)) λh=>?_)
 refine Rcl 8 q ?_
 replace h:=aD h
 obtain⟨j,h⟩:=h
 refine Zq (gF cq t0.text.handlers (l:=0) (h:=a) e23 q Zl q ⟨_,q⟩ j λ_=>q) q (Zq (ab cq (bD t0.text.handlers 0 a) e23 q q Zl) q (Rlc 4 q (Ln1 (λe=> [(1, .d (.pc (bU t0))),(4, .pt 0 0),(15, .l cq t0.text.handlers),(16, .n (List.length t0.text.handlers:Int)),(17, .n a),(58, .l cq (bD t0.text.handlers 0 a)),(59, .n (List.length (bD t0.text.handlers 0 a):Int)),(60, .n e)]) (λ_=> [.row 104 [.n c.from_, .n c.to, .n c.at_, .d (D.b c.clean)]]) (f49_l2 t0 a g c) h (λ_ h=>by rw[f49_l2] at h;cases h) λna e h=>?_)))
 rw[f49_l2] at h
 refine Rcc 6 q (Ci h q (λh=>?_) λh=>?_)
 refine Rcl 6 q (Ix h e23 ir q Zl q q λw _ h=>(Rl 1 q (Al ub q (sS Z6 ul Z2 (Rll 10 q ?_)))))
 refine AG 6 69 75 6 6 ?_
 refine Rll 8 q ?_
 apply WL.and 12 (t:=78) (d:=90)
 exact q
 intro x
 exact Rl 4 q (Zy (eU q q q) q q q (Rl 4 q (Zy (gG q q q) q q q (Rl 2 q (WL.nil ⟨q,[_,_,_,_,_,_,_,_,_,_,_,_],q,q,q⟩)))))
 exact Rn 12 12
 refine Rlc 2 q (Ci h q (λh=>Rcx 15 q (FA h)) λh=>?_)
 exact Rcx 7 q (WE.drop 1 (env':=[(1, .d (.pc (bU t0))),(4, .pt 0 0),(15, .l cq t0.text.handlers),(16, .n (List.length t0.text.handlers:Int)),(17, .n a),(58, .l cq (bD t0.text.handlers 0 a)),(59, .n (List.length (bD t0.text.handlers 0 a):Int)),(60, .n (IntKind.i64.wrap (e+1)))]) Sb q q (Nat.zero_le _) (Fn1 h))
 exact Rcx 5 q (En4 h)
 exact Rcx 4 q (WE.drop 0 (env':=[(1, .d (.pc (bU t0))),(15, .l cq t0.text.handlers),(16, .n (List.length t0.text.handlers:Int)),(17, .n (IntKind.i64.wrap (a+1)))]) Sb q q (Nat.zero_le _) (Fn1 h))
 exact Rcx 4 q (En0 h)
 exact Rcx 6 q (FA h)

theorem f78_c{x0:ao}{a:Int}:Pu prog 78 [.ag (R59 x0), .i .i64 a] (.b (f78 x0 a)):=by
 generalize h:f78 x0 a=r
 unfold f78 at h
 refine fI func78 λ_ _=>?_
 refine Rcl 2 q (Bd q q (Zs _) q (Rll 9 q ?_))
 refine OG 4 8 12 4 4 ?_
 refine Rl 1 q ?_
 refine OG 4 13 17 4 4 ?_
 refine Rl 1 q ?_
 refine AG 5 18 23 5 5 ?_
 exact Rlx 4 q (FB h)

theorem f50_c{t0:bP}{r:Bool}(h:f50 t0=some r):Pu prog 50 [.ag (bU t0)] (.b r):=by
 unfold f50 at h
 refine fI func50 λ_ _=>?_
 refine Rcl 2 q (Bd q q (Zs _) q (Rll 9 q (Zq (ab cM t0.text.loops e24 q q Zl) q (Rlc 3 q (Ci h q (λh=>?_) λh=>?_)))))
 exact Rcx 7 q (FA h)
 refine Rcl 4 q (WL.s ((eS (α:=Bool) kW (λx:Bool=>AV.d (.b x))).does) (Zw q) q q (Rlc 3 q (Jn1 (λ_=> []) (λf=> [mpO kW (λx:Bool=>AV.d (.b x)) f]) h (λk h=>?_) λf h=>?_)))
 refine Rcl 5 q (Zq (ab cM t0.text.loops e24 q q Zl) q (Rlc 4 q (Ln2 (λc _=> [(1, .d (.pc (bU t0))),(3, .mp 0),(14, .l cM t0.text.loops),(15, .n (List.length t0.text.loops:Int)),(16, .n c)]) (λ_ a=> [mpO kW (λx:Bool=>AV.d (.b x)) a]) (f50_l1 t0 k) h (λ_ _ h=>by rw[f50_l1] at h;cases h) λn c a h=>?_)))
 rw[f50_l1] at h
 refine Rcc 6 q (Ci h q (λh=>?_) λh=>?_)
 refine Rcl 6 q (Ix h e24 nI q Zl q q λp _ h=>(Rl 1 q (Al z106 q (sS Z6 s106 Z2 (Rlc 4 q (av kR kR (Rq 4 q ?_)))))))
 apply WQ.or 6 (t:=23) (d:=29)
 exact q
 intro w
 exact Rq 6 q (WQ.nil ⟨[_,_,_,_,_,_],q,q,q⟩)
 exact Rq 6 q (WQ.nil ⟨[_,_,_,_,_,_],q,q,q⟩)
 refine Rq 1 q ?_
 apply WQ.or 6 (t:=30) (d:=36)
 exact q
 intro y
 exact Rq 3 q (WQ.q (YieldsQ.fn q q q q q (f69_c) Lw) (aG q q q) q q (Rq 2 q (WQ.nil ⟨[_,_,_,_,_,_],q,q,q⟩)))
 exact Rq 6 q (WQ.nil ⟨[_,_,_,_,_,_],q,q,q⟩)
 refine Rq 1 q ?_
 apply WQ.or 5 (t:=37) (d:=42)
 exact q
 intro A
 exact Rq 3 q (WQ.qy (nQ kW (λx:Bool=>AV.d (.b x)) a (z:=false) underlying147 underlying3 (KeyF.int .i64) q q q kR q) q q q (Rq 1 q (WQ.nil ⟨[_,_,_,_,_],q,q,q⟩)))
 exact Rq 5 q (WQ.nil ⟨[_,_,_,_,_],q,q,q⟩)
 refine Rq 1 q ?_
 obtain⟨m,g,h⟩:=ae h
 apply WQ.grp 12 (t:=43) (d:=55) (z:=m)
 exact q
 intro e
 have h:=cG g e
 refine Rq 12 q ?_
 obtain rfl:=Oi h
 exact WQ.nil ⟨[_,_,_,_,_,_,_,_,_,_,_,_],q,q,q⟩
 intro e
 have h:=cH g e
 refine Rq 5 q ?_
 obtain⟨B,j,h⟩:=ae h
 refine WQ.qy (ah e22 q Zl q (af j) (an c9 j) q) q q q (Rq 3 q (WQ.q (YieldsQ.fn q q q q q (f78_c) Lw) (aG q q q) q q (Rq 2 q ?_)))
 obtain rfl:=Oi h
 exact WQ.nil ⟨[_,_,_,_,_,_,_,_,_,_,_,_],q,q,q⟩
 refine Rq 1 q ?_
 apply WQ.or 4 (t:=56) (d:=60)
 exact q
 intro C
 exact Rq 4 q (WQ.nil ⟨[_,_,_,_],q,q,q⟩)
 exact Rq 4 q (WQ.nil ⟨[_,_,_,_],q,q,q⟩)
 refine Rq 1 q ?_
 apply WQ.or 4 (t:=61) (d:=65)
 exact q
 intro E
 exact Rq 4 q (WQ.nil ⟨[_,_,_,_],q,q,q⟩)
 exact Rq 4 q (WQ.nil ⟨[_,_,_,_],q,q,q⟩)
 refine WQ.nil (Rxc 1 q (Ci h q (λh=>?_) λh=>?_))
 exact Rcx 12 q (FA h)
 exact Rcl 6 q (WL.s0 (bq kW (λx:Bool=>AV.d (.b x)) a (.inr q) underlying147 underlying3 (KeyF.int .i64) q q q q) (Zw q) q (Rlx 7 q (WE.drop 1 (env':=[(1, .d (.pc (bU t0))),(3, .mp 0),(14, .l cM t0.text.loops),(15, .n (List.length t0.text.loops:Int)),(16, .n (IntKind.i64.wrap (c+1)))]) Sb q (ay (cv _ _ _ _) q) (Nat.zero_le _) (Fn2 h))))
 exact Rcx 4 q (En1 h)
 exact Rcx 6 q (FA h)

theorem f79_c{t0:bP}{a1:Int}{r:Bool}(h:f79 t0 a1=some r):Pu prog 79 [.ag (bU t0), .i .i64 a1] (.b r):=by
 unfold f79 at h
 refine fI func79 λ_ _=>?_
 refine Rcl 2 q (Bd q q (Zs _) q (Rll 7 q (wF Z4 (f69_c) Lw Z3 (Rl 1 q ?_))))
 obtain⟨e,f,h⟩:=ae h
 refine Gg 19 8 27 e f (λh=>?_) (λh=>?_) ?_
 refine Rl 4 q ?_
 obtain⟨k,a,h⟩:=ae h
 refine Zy (ah e22 q Zl q (af a) (an c9 a) q) q q q (Rl 4 q ?_)
 obtain⟨g,j,h⟩:=ae h
 refine Gg 9 17 26 g j (λh=>?_) (λh=>?_) ?_
 exact On 9 9 h
 refine Rl 4 q ?_
 obtain⟨m,c,h⟩:=ae h
 exact Zy (ah e22 q Zl q (af c) (an c9 c) q) q q q (On 4 9 h)
 exact On 1 11 h
 exact On 19 19 h
 exact Rlx 4 q (FA h)

theorem f51_c{t0:bP}{r:Bool}(h:f51 t0=some r):Pu prog 51 [.ag (bU t0)] (.b r):=by
 unfold f51 at h
 refine fI func51 λ_ _=>?_
 refine Rcl 2 q (Bd q q (Zs _) q (Rlc 8 q (Jn0 [] [] h (λe h=>?_) λh=>?_)))
 refine Rcl 5 q (Zq (ab E95 t0.text.checks e31 q q Zl) q (Rlc 4 q (Ln2 (λc a=> [(1, .d (.pc (bU t0))),(3, .n c),(8, .l E95 t0.text.checks),(9, .n (List.length t0.text.checks:Int)),(10, .n a)]) (λ_ _=> []) (f51_l1 t0 e) h (λ_ _ h=>by rw[f51_l1] at h;cases h) λn c a h=>?_)))
 rw[f51_l1] at h
 refine Rcc 6 q (Ci h q (λh=>?_) λh=>?_)
 refine Rcl 6 q (Ix h e31 qu q Zl q q λf _ h=>(Rl 1 q (Al z95 q (sS Z6 s95 Z2 (Rll 10 q ?_)))))
 obtain⟨g,j,h⟩:=ae h
 refine Gg 6 18 24 g j (λh=>?_) (λh=>?_) ?_
 exact On 6 6 h
 refine Rl 3 q ?_
 obtain⟨m,k,h⟩:=ae h
 exact WL.fn q q q q (f79_c k) Lw (aG q q q) q q (On 2 6 h)
 refine Rl 1 q ?_
 refine OG 4 25 29 4 4 ?_
 refine Rl 1 q ?_
 refine OG 4 30 34 4 4 ?_
 refine Rlc 2 q (Ci h q (λh=>Rcx 12 q (FA h)) λh=>?_)
 exact Rcx 13 q (WE.drop 0 (env':=[(1, .d (.pc (bU t0))),(3, .n f.at_),(8, .l E95 t0.text.checks),(9, .n (List.length t0.text.checks:Int)),(10, .n (IntKind.i64.wrap (a+1)))]) Sb q q (Nat.zero_le _) (Fn2 h))
 exact Rcx 4 q (En0 h)
 exact Rcx 6 q (FA h)

theorem f80_c(s0:lN)(a:ao→oB)(g1:FuncId)(c e:lD)(g:∀(y0:ao)(r:Bool),a y0=some r→Pu prog g1 (c++ [.ag (R59 y0)]++e) (.b r)){r:Int}(h:f80 s0 a=some r):Pu prog 80 [.sl (List.map E59 s0), .fnc (.func g1) c e] (.i .i64 r):=by
 unfold f80 at h
 refine fI func80 λ_ _=>?_
 refine WC.cast 1 q (gv _ _ _) (Rcc 5 q (Jn0 [] [] h (λj h=>?_) λh=>?_))
 refine Rcl 3 q (Zq (ab E59 s0 e22 q q Zl) q (Rlc 4 q (Ln1 (λf=> [(0, .l E59 s0),(1, .fn (.func g1) (List.map AV.d c) (List.map AV.d e)),(7, .n (List.length s0:Int)),(8, .n f)]) (λ_=> []) (f80_l1 s0 a j) h (λ_ h=>by rw[f80_l1] at h;cases h) λn f h=>?_)))
 rw[f80_l1] at h
 refine Rcc 6 q (Ci h q (λh=>?_) λh=>?_)
 refine Rcl 15 q (Ix h e22 c9 q Zl q q λm _ h=>(Rl 1 q ?_))
 obtain⟨p,k,h⟩:=ae h
 refine WL.fn q q q q (g _ _ k) (kH Lw) (Zw q) q q (Rlc 2 q (Ci h q (λh=>?_) λh=>?_))
 exact Rcx 12 q (FA h)
 exact Rcx 7 q (Fn1 h)
 exact Rcx 4 q (En0 h)
 exact Rcx 6 q (FA h)

theorem f52_c(s0:lN)(e:ao→oB)(g1:FuncId)(a c:lD)(f:∀(y0:ao)(r:Bool),e y0=some r→Pu prog g1 (a++ [.ag (R59 y0)]++c) (.b r)){r:Bool}(h:f52 s0 e=some r):Pu prog 52 [.sl (List.map E59 s0), .fnc (.func g1) a c] (.b r):=by
 unfold f52 at h
 refine fI func52 λ_ _=>?_
 refine WC.cast 1 q (gv _ _ _) (Rcl 9 q ?_)
 obtain⟨j,g,h⟩:=ae h
 exact wF Z4 (f80_c _ _ g1 a c f g) ⟨Zl,(Le.fnc (Zs _) (Zs _)),Zt⟩ Z3 (Rlx 5 q (FA h))

theorem f111_c{o0:Int}{r:hZ×Bool}(h:f111 o0=some r):Pu prog 111 [.i .u8 o0] (.tu [.ag (wD r.1), .b r.2]):=by
 unfold f111 at h
 refine fI func111 λ_ _=>?_
 refine Rcl 2 q (Al ua q (Rll 9 q ?_))
 refine OG 4 6 10 4 4 ?_
 refine Rlc 2 q (Ci h q (λh=>?_) λh=>?_)
 refine Rcl 2 q (Zq (ac p176 ua q q) q (sS Z6 rK Z2 (Rlx 5 q ?_)))
 obtain rfl:=Oi h
 exact am (rs2 q (aZ q q a176 rK q) (aR q)) (aY ⟨(ak (Zs _)),Zl,Zt⟩)
 refine Rcl 6 q ?_
 obtain⟨c,a,h⟩:=ae h
 refine Zq (vI (R:=wD) jm (λ_=>q) ar195 (congrArg (Option.map λps=>AV.d (.pc ps)) nt) q q a) q (Rl 1 q (sS Z6 rK Z2 (Rlx 4 q ?_)))
 obtain rfl:=Oi h
 exact am (rs2 q (aZ q q a176 rK q) (aR q)) (aY ⟨(ak (Zs _)),Zl,Zt⟩)

theorem f127_c{s0:ByteArray}{r:List ByteArray}(h:f127 s0=some r):Pu prog 127 [.s s0] (.sl (List.map E9 r)):=by
 unfold f127 at h
 refine fI func127 λ_ _=>?_
 refine Rcc 20 q (Jn2 (λc setBits109=> [(0, .d (D.s s0)),(3, .n c),(5, .d (D.i .u8 setBits109))]) (λ_ _=> []) h (λK h=>?_) λc setBits109 h=>?_)
 refine Rcc 6 q (Ln4 (λt wasSpace116 setBits117 w=> [(0, .d (D.s s0)),(3, .n t),(4, .n wasSpace116),(5, .d (D.i .u8 setBits117)),(6, .n w)]) (λ_ _ _ _=> []) (f127_l1 s0 K) h (λ_ _ _ _ h=>by rw[f127_l1] at h;cases h) λn t wasSpace116 setBits117 w h=>?_)
 rw[f127_l1] at h
 refine Rcl 5 q (Zq (fL underlying9 q q) q (Rlc 3 q (Ci h q (λh=>?_) λh=>?_)))
 refine Rcl 8 q ?_
 obtain⟨bd,L,h⟩:=ae h
 refine Zq (di underlying9 q q L) q (Rll 7 q (Zq (vK q q q) q (Rll 6 q ?_)))
 obtain⟨bk,M,h⟩:=ae h
 exact Zq (qw (E:=D.i .u8) dA ra q q q M) q (Rll 10 q (Zq (y_com q q) q (Zq (jd q q q) q (Rlx 15 q (Fn4 h)))))
 exact Rcx 4 q (En2 h)
 refine Rcc 7 q (Ci h q (λh=>?_) λh=>?_)
 refine Rcc 1 q ?_
 cases h
 refine Rcl 5 q ?_
 replace h:=aD h
 obtain⟨N,h⟩:=h
 refine WL.s ((NewOs.b (NewOs.cast (fB l197 z9 q (Nat.succ_pos _) q q N) (by exact eY (R:=E9) (z:=(ByteArray.empty:ByteArray)) q))).does) (Zw q) q q (Rlc 18 q (Jn1 (λx=> [(0, .d (D.s s0)),(9, .os 0 0),(10, .n 0),(12, .n x)]) (λ_=> [.os 9 1 0 (eM E9 (List.replicate (Int.toNat c) (ByteArray.empty:ByteArray)))]) h (λO h=>?_) λx h=>?_))
 refine Rcc 1 q (Ln1 (λy=> [(0, .d (D.s s0)),(9, .os 0 0),(10, .n 0),(12, .n y)]) (λ_=> [.os 9 1 0 (eM E9 (List.replicate (Int.toNat c) (ByteArray.empty:ByteArray)))]) (f127_l2 s0 O) h (λ_ h=>by rw[f127_l2] at h;cases h) λn y h=>?_)
 rw[f127_l2] at h
 refine Rcl 5 q (Zq (fL underlying9 q q) q (Rl 2 q ?_))
 obtain⟨P,Q,h⟩:=ae h
 refine Gg 7 46 53 P Q (λh=>?_) (λh=>?_) ?_
 refine Rl 2 q ?_
 obtain⟨bl,S,h⟩:=ae h
 refine Zy (di underlying9 q q S) q q q ?_
 obtain⟨bs,T,h⟩:=ae h
 exact Zy (qw (E:=D.i .u8) dA ra q q q T) q q q (On 3 7 h)
 exact On 7 7 h
 exact Rlc 2 q (Ci h q (λh=>Rcx 9 q (Fn1 h)) λh=>Rcx 4 q (En1 h))
 refine Rcc 6 q (Jn3 (λf fieldStart135 _=> [(0, .d (D.s s0)),(9, .os 0 0),(10, .n f),(11, .n fieldStart135)]) (λ_ _ A=> [.os 9 1 0 (eM E9 A)]) h (λU h=>?_) λf fieldStart135 A h=>?_)
 refine Rcc 1 q (Ln4 (λa fieldStart143 B _=> [(0, .d (D.s s0)),(9, .os 0 0),(10, .n a),(11, .n fieldStart143),(12, .n B)]) (λ_ _ _ e=> [.os 9 1 0 (eM E9 e)]) (f127_l3 s0 U) h (λ_ _ _ _ h=>by rw[f127_l3] at h;cases h) λn a fieldStart143 B e h=>?_)
 rw[f127_l3] at h
 refine Rcl 5 q (Zq (fL underlying9 q q) q (Rlc 3 q (Ci h q (λh=>?_) λh=>?_)))
 refine Rcc 2 q ?_
 replace h:=aB h
 obtain⟨V,X,h⟩:=h
 refine ui (λenv' st'=>∃(g:Int),∃(fieldStart151:Int),∃(j:Int),∃(m:List ByteArray),V g fieldStart151 j m=some r∧Sub [(0, .d (D.s s0)),(9, .os 0 0),(10, .n g),(11, .n fieldStart151),(12, .n j)] env'∧SLe st' [.os 9 1 0 (eM E9 m)]) ?_ ?_
 refine Rcl 6 q ?_
 obtain⟨b0,Y,h⟩:=ae h
 refine Zq (di underlying9 q q Y) q ?_
 obtain⟨b1,Z,h⟩:=ae h
 refine Zq (qw (E:=D.i .u8) dA ra q q q Z) q (Rlc 4 q (Ci h q (λh=>?_) λh=>?_))
 exact Rcx 10 q (En4 h)
 refine Rcl 9 q ?_
 obtain⟨p,ag,h⟩:=ae h
 refine Zq (vJ underlying9 q q q ag) q ?_
 obtain⟨b2,C,h⟩:=ae h
 refine Zq (lU uT q q q C) q (WL.s0 (dp (R:=E9) (k:=1) (i:=a) (fo:=0) p q q q q Zl q q q s9 q (λ_=>q) C q q) (Zw q) q (Rlc 16 q (Jn1 (λF=> [(0, .d (D.s s0)),(9, .os 0 0),(10, .n (IntKind.i64.wrap (a+1))),(12, .n F)]) (λ_=> [.os 9 1 0 (eM E9 (List.set e (Int.toNat a) p))]) h (λa0 h=>?_) λF h=>?_)))
 refine Rcc 1 q (Ln1 (λG=> [(0, .d (D.s s0)),(9, .os 0 0),(10, .n (IntKind.i64.wrap (a+1))),(12, .n G)]) (λ_=> [.os 9 1 0 (eM E9 (List.set e (Int.toNat a) p))]) (f127_l4 s0 a0) h (λ_ h=>by rw[f127_l4] at h;cases h) λna G h=>?_)
 rw[f127_l4] at h
 refine Rcl 5 q (Zq (fL underlying9 q q) q (Rl 2 q ?_))
 obtain⟨a1,a6,h⟩:=ae h
 refine Gg 7 84 91 a1 a6 (λh=>?_) (λh=>?_) ?_
 refine Rl 2 q ?_
 obtain⟨b3,a7,h⟩:=ae h
 refine Zy (di underlying9 q q a7) q q q ?_
 obtain⟨b4,a8,h⟩:=ae h
 exact Zy (qw (E:=D.i .u8) dA ra q q q a8) q q q (On 3 7 h)
 exact On 7 7 h
 exact Rlc 2 q (Ci h q (λh=>Rcx 9 q (Fn1 h)) λh=>Rcx 4 q (En1 h))
 exact Rcx 5 q (En4 h)
 rintro b5 b6 ⟨g,fieldStart151,j,m,h,hsub,hst⟩
 subst X
 dsimp only at h
 refine WE.sub hsub (WE.weak hst ?_)
 exact Fn4 h
 exact Rcx 4 q (En3 h)
 refine Jn1 (λ_=> [(9, .os 0 0)]) (λH=> [.os 9 1 0 (eM E9 H)]) h (λ_ h=>?_) (λH h=>?_)
 refine Rcl 4 q (Zq (fL underlying9 q q) q (Rlc 3 q (Ci h q (λh=>?_) λh=>?_)))
 refine Rcl 5 q ?_
 obtain⟨a',bb,h⟩:=ae h
 refine Zq (ud underlying9 q q bb) q ?_
 obtain⟨b7,I,h⟩:=ae h
 exact Zq (lU uT q q q I) q (WL.s0 (dp (R:=E9) (k:=1) (i:=f) (fo:=0) a' q q q q Zl q q q s9 q (λ_=>q) I q q) (Zw q) q (Rlx 1 q (En1 h)))
 exact Rcx 1 q (En1 h)
 refine Rcx 7 q ?_
 exact WE.freezeX [9,105,2] [] 0 _ q (ai vG _) ⟨q,q,q,Zt⟩ Zt (FA h)

theorem f130_c{a:Int}:Pu prog 130 [.i .u8 a] (.tu [.i .i64 (f130 a).1, .i .i64 (f130 a).2]):=by
 generalize h:f130 a=r
 unfold f130 at h
 refine fI func130 λ_ _=>?_
 refine Rcc 19 q (Ci h q (λh=>Rcx 9 q (FB h)) λh=>?_)
 refine Rcc 6 q (Ci h q (λh=>Rcx 9 q (FB h)) λh=>?_)
 refine Rcc 6 q (Ci h q (λh=>Rcx 9 q (FB h)) λh=>?_)
 refine Rcc 6 q (Ci h q (λh=>Rcx 9 q (FB h)) λh=>?_)
 refine Rcc 6 q (Ci h q (λh=>Rcx 9 q (FB h)) λh=>?_)
 refine Rcc 6 q (Ci h q (λh=>Rcx 9 q (FB h)) λh=>?_)
 refine Rcc 6 q (Ci h q (λh=>Rcx 9 q (FB h)) λh=>?_)
 refine Rcc 6 q (Ci h q (λh=>Rcx 9 q (FB h)) λh=>?_)
 refine Rcc 6 q (Ci h q (λh=>Rcx 9 q (FB h)) λh=>?_)
 refine Rcc 6 q (Ci h q (λh=>Rcx 9 q (FB h)) λh=>?_)
 refine Rcc 6 q (Ci h q (λh=>Rcx 9 q (FB h)) λh=>?_)
 exact Rcc 6 q (Ci h q (λh=>Rcx 9 q (FB h)) λh=>Rcx 10 q (FB h))

theorem f81_c{x0:ao}{r:Bool}(h:f81 x0=some r):Pu prog 81 [.ag (R59 x0)] (.b r):=by
 unfold f81 at h
 refine fI func81 λ_ _=>?_
 refine Rcl 2 q (Bd q q (Zs _) q (Al z4 q (Rll 7 q ?_)))
 obtain⟨c,T,h⟩:=ae h
 refine wF Z4 (f111_c T) Lw Z3 (Rl 3 q (Al ua q (sS Z6 rK Z2 (Rll 8 q ?_))))
 apply WL.or 11 (t:=16) (d:=27)
 exact q
 intro f2
 refine Rl 4 q ?_
 refine AG 6 20 26 6 6 ?_
 exact Rn 1 6
 exact Rn 11 11
 refine Rlc 2 q (Ci h q (λh=>?_) λh=>?_)
 refine Rcl 2 q (sS Z6 s4 Z2 (Rlx 4 q ?_))
 obtain rfl:=Oi h
 exact am (rs1 q (nf q q a4 q)) Zl
 refine Rcl 9 q ?_
 refine AG 5 31 36 5 5 ?_
 refine Rl 1 q ?_
 refine AG 4 37 41 4 4 ?_
 refine Rlc 2 q (Ci h q (λh=>?_) λh=>?_)
 refine Rcl 2 q (sS Z6 s4 Z2 (Rlx 4 q ?_))
 obtain rfl:=Oi h
 exact am (rs1 q (nf q q a4 q)) Zl
 refine Rcl 5 q (Al z59 q (sS Z6 s59 Z2 (Rlc 2 q (Jn8 (λ_ _ _ _ _ _ _ _=> [(1, .d (.pc (R59 x0))),(2, .pt 0 0),(5, .pt 2 0)]) (λc21v69 c22v70 c23v71 c24v72 c25v73 c26v74 c50v75 c51v76=> [.row 4 [.d (D.b false)], .row 176 [.d (D.s c.1.name), .d (D.s c.1.fields)], .row 59 [.d (D.i .u8 x0.op), .n c21v69, .n c22v70, .n c23v71, .n c24v72, .n c25v73, .n c26v74], .row 183 [.pt 2 0], .z, .row 176 [.d (D.s c50v75), .d (D.s c51v76)]]) h (λ_ h=>?_) λc21v69 c22v70 c23v71 c24v72 c25v73 c26v74 c50v75 c51v76 h=>?_))))
 refine Rcl 2 q ?_
 obtain⟨U,V,h⟩:=aB h
 refine WL.inl (us:=[.pt 2 0]) (λrv st'=>(U ()=some r∧Le rv (.fn (.func 126) [] [.pt 3 0])∧SLe st' [.row 4 [.d (D.b false)], .row 176 [.d (D.s c.1.name), .d (D.s c.1.fields)], .row 59 [.d (D.i .u8 x0.op), .n x0.d, .n x0.a, .n x0.b, .n x0.n, .n x0.m, .n x0.to], .row 183 [.pt 2 0]])) q q q q q ?_ (Zw q) q q ?_
 refine cI func112 λ_ _ _ _=>?_
 exact Rcl 2 q (Bx q q q (Rlx 10 q (ax (rs1 q (aR q)) ⟨h,Zl,⟨Zp,Zp,Zp,Zp,Zt⟩⟩)))
 rintro rv g ⟨h,hr,hst⟩
 subst V
 dsimp only at h
 refine WL.cast 43 q hr (WL.weak hst (Zn (Rcc 1 q ?_)))
 obtain⟨M,X,h⟩:=aB h
 obtain⟨N,Y,h⟩:=aB h
 obtain⟨O,Z,h⟩:=aB h
 obtain⟨P,a0,h⟩:=aB h
 obtain⟨Q,a1,h⟩:=aB h
 obtain⟨R,a6,h⟩:=aB h
 obtain⟨S,a7,h⟩:=aB h
 refine sJ (us:=[.yl 4, .pt 3 0]) [2] 4 (λf rv st'=>(∃(c21v81:Int),∃(c22v82:Int),∃(c23v83:Int),∃(c24v84:Int),∃(c25v85:Int),∃(c26v86:Int),∃(c50v87:ByteArray),∃(c51v88:ByteArray),∃(c62v89:Int),∃(c63v90:Int),∃(c92v91:Int),∃(c93v92:Int),M c21v81 c22v82 c23v83 c24v84 c25v85 c26v86 c50v87 c51v88 c62v89 c63v90 c92v91 c93v92=some r∧SLe st' [.row 4 [.d (D.b false)], .row 176 [.d (D.s c.1.name), .d (D.s c.1.fields)], .row 59 [.d (D.i .u8 x0.op), .n c21v81, .n c22v82, .n c23v83, .n c24v84, .n c25v85, .n c26v86], .row 183 [.pt 2 0], .lp f [.pt 0 0] .done (some .ret), .row 176 [.d (D.s c50v87), .d (D.s c51v88)], .row 187 [.fn (.func 145) [] [.pt 7 0], .fn (.func 146) [] [.pt 7 0], .n c62v89, .n c63v90], .row 200 [.pt 2 1], .row 187 [.fn (.func 145) [] [.pt 7 0], .fn (.func 146) [] [.pt 7 0], .n 0, .n 0], .row 187 [.fn (.func 145) [] [.pt 7 0], .fn (.func 146) [] [.pt 7 0], .n c92v91, .n c93v92]])∨(∃(c21v94:Int),∃(c22v95:Int),∃(c23v96:Int),∃(c24v97:Int),∃(c25v98:Int),∃(c26v99:Int),∃(c50v100:ByteArray),∃(c51v101:ByteArray),∃(c62v102:Int),∃(c63v103:Int),∃(c92v104:Int),∃(c93v105:Int),N c21v94 c22v95 c23v96 c24v97 c25v98 c26v99 c50v100 c51v101 c62v102 c63v103 c92v104 c93v105=some r∧SLe st' [.row 4 [.d (D.b false)], .row 176 [.d (D.s c.1.name), .d (D.s c.1.fields)], .row 59 [.d (D.i .u8 x0.op), .n c21v94, .n c22v95, .n c23v96, .n c24v97, .n c25v98, .n c26v99], .row 183 [.pt 2 0], .lp f [.pt 0 0] .done (some .ret), .row 176 [.d (D.s c50v100), .d (D.s c51v101)], .row 187 [.fn (.func 145) [] [.pt 7 0], .fn (.func 146) [] [.pt 7 0], .n c62v102, .n c63v103], .row 200 [.pt 2 2], .row 187 [.fn (.func 145) [] [.pt 7 0], .fn (.func 146) [] [.pt 7 0], .n 0, .n 0], .row 187 [.fn (.func 145) [] [.pt 7 0], .fn (.func 146) [] [.pt 7 0], .n c92v104, .n c93v105]])∨(∃(c21v107:Int),∃(c22v108:Int),∃(c23v109:Int),∃(c24v110:Int),∃(c25v111:Int),∃(c26v112:Int),∃(c50v113:ByteArray),∃(c51v114:ByteArray),∃(c62v115:Int),∃(c63v116:Int),∃(c92v117:Int),∃(c93v118:Int),O c21v107 c22v108 c23v109 c24v110 c25v111 c26v112 c50v113 c51v114 c62v115 c63v116 c92v117 c93v118=some r∧SLe st' [.row 4 [.d (D.b false)], .row 176 [.d (D.s c.1.name), .d (D.s c.1.fields)], .row 59 [.d (D.i .u8 x0.op), .n c21v107, .n c22v108, .n c23v109, .n c24v110, .n c25v111, .n c26v112], .row 183 [.pt 2 0], .lp f [.pt 0 0] .done (some .ret), .row 176 [.d (D.s c50v113), .d (D.s c51v114)], .row 187 [.fn (.func 145) [] [.pt 7 0], .fn (.func 146) [] [.pt 7 0], .n c62v115, .n c63v116], .row 200 [.pt 2 3], .row 187 [.fn (.func 145) [] [.pt 7 0], .fn (.func 146) [] [.pt 7 0], .n 0, .n 0], .row 187 [.fn (.func 145) [] [.pt 7 0], .fn (.func 146) [] [.pt 7 0], .n c92v117, .n c93v118]])∨(∃(c21v120:Int),∃(c22v121:Int),∃(c23v122:Int),∃(c24v123:Int),∃(c25v124:Int),∃(c26v125:Int),∃(c50v126:ByteArray),∃(c51v127:ByteArray),∃(c62v128:Int),∃(c63v129:Int),∃(c92v130:Int),∃(c93v131:Int),P c21v120 c22v121 c23v122 c24v123 c25v124 c26v125 c50v126 c51v127 c62v128 c63v129 c92v130 c93v131=some r∧SLe st' [.row 4 [.d (D.b false)], .row 176 [.d (D.s c.1.name), .d (D.s c.1.fields)], .row 59 [.d (D.i .u8 x0.op), .n c21v120, .n c22v121, .n c23v122, .n c24v123, .n c25v124, .n c26v125], .row 183 [.pt 2 0], .lp f [.pt 0 0] .done (some .ret), .row 176 [.d (D.s c50v126), .d (D.s c51v127)], .row 187 [.fn (.func 147) [] [.pt 7 0], .fn (.func 148) [] [.pt 7 0], .n c62v128, .n c63v129], .row 202 [.pt 2 4], .row 187 [.fn (.func 147) [] [.pt 7 0], .fn (.func 148) [] [.pt 7 0], .n 0, .n 0], .row 187 [.fn (.func 147) [] [.pt 7 0], .fn (.func 148) [] [.pt 7 0], .n c92v130, .n c93v131]])∨(∃(c21v133:Int),∃(c22v134:Int),∃(c23v135:Int),∃(c24v136:Int),∃(c25v137:Int),∃(c26v138:Int),∃(c50v139:ByteArray),∃(c51v140:ByteArray),∃(c62v141:Int),∃(c63v142:Int),∃(c92v143:Int),∃(c93v144:Int),Q c21v133 c22v134 c23v135 c24v136 c25v137 c26v138 c50v139 c51v140 c62v141 c63v142 c92v143 c93v144=some r∧SLe st' [.row 4 [.d (D.b false)], .row 176 [.d (D.s c.1.name), .d (D.s c.1.fields)], .row 59 [.d (D.i .u8 x0.op), .n c21v133, .n c22v134, .n c23v135, .n c24v136, .n c25v137, .n c26v138], .row 183 [.pt 2 0], .lp f [.pt 0 0] .done (some .ret), .row 176 [.d (D.s c50v139), .d (D.s c51v140)], .row 187 [.fn (.func 147) [] [.pt 7 0], .fn (.func 148) [] [.pt 7 0], .n c62v141, .n c63v142], .row 202 [.pt 2 5], .row 187 [.fn (.func 147) [] [.pt 7 0], .fn (.func 148) [] [.pt 7 0], .n 0, .n 0], .row 187 [.fn (.func 147) [] [.pt 7 0], .fn (.func 148) [] [.pt 7 0], .n c92v143, .n c93v144]])∨(∃(c21v146:Int),∃(c22v147:Int),∃(c23v148:Int),∃(c24v149:Int),∃(c25v150:Int),∃(c26v151:Int),∃(c50v152:ByteArray),∃(c51v153:ByteArray),∃(c62v154:Int),∃(c63v155:Int),∃(c92v156:Int),∃(c93v157:Int),R c21v146 c22v147 c23v148 c24v149 c25v150 c26v151 c50v152 c51v153 c62v154 c63v155 c92v156 c93v157=some r∧SLe st' [.row 4 [.d (D.b false)], .row 176 [.d (D.s c.1.name), .d (D.s c.1.fields)], .row 59 [.d (D.i .u8 x0.op), .n c21v146, .n c22v147, .n c23v148, .n c24v149, .n c25v150, .n c26v151], .row 183 [.pt 2 0], .lp f [.pt 0 0] .done (some .ret), .row 176 [.d (D.s c50v152), .d (D.s c51v153)], .row 187 [.fn (.func 145) [] [.pt 7 0], .fn (.func 146) [] [.pt 7 0], .n c62v154, .n c63v155], .row 200 [.pt 2 6], .row 187 [.fn (.func 145) [] [.pt 7 0], .fn (.func 146) [] [.pt 7 0], .n 0, .n 0], .row 187 [.fn (.func 145) [] [.pt 7 0], .fn (.func 146) [] [.pt 7 0], .n c92v156, .n c93v157]])∨(∃(c21v159:Int),∃(c22v160:Int),∃(c23v161:Int),∃(c24v162:Int),∃(c25v163:Int),∃(c26v164:Int),∃(c50v165:ByteArray),∃(c51v166:ByteArray),S c21v159 c22v160 c23v161 c24v162 c25v163 c26v164 c50v165 c51v166=some r∧SLe st' [.row 4 [.d (D.b false)], .row 176 [.d (D.s c.1.name), .d (D.s c.1.fields)], .row 59 [.d (D.i .u8 x0.op), .n c21v159, .n c22v160, .n c23v161, .n c24v162, .n c25v163, .n c26v164], .row 183 [.pt 2 0], .lp f [.pt 0 0] .ready none, .row 176 [.d (D.s c50v165), .d (D.s c51v166)]])) q q q q q (λf C=>?_) ?_
 refine cI func126 λ_ _ _ E=>?_
 refine Rcl 6 q ?_
 obtain⟨e,a8,h⟩:=ae h
 refine wF Z4 (f111_c a8) Lw Z3 (Rl 3 q (Al ua q (sS Z6 rK Z2 (Rll 7 q ?_))))
 obtain⟨A,a',h⟩:=ae h
 refine wF Z4 (f127_c a') Lw Z3 (Zq (ab E9 A uT q q Zl) q (Rlc 4 q (Ln7 (λB _ _ _ _ _ _=> [(0, .yl 4),(1, .pt 3 0),(18, .l E9 A),(19, .n (List.length A:Int)),(20, .n B)]) (λ_ c21v178 c22v179 c23v180 c24v181 c25v182 c26v183=> [.row 4 [.d (D.b false)], .row 176 [.d (D.s c.1.name), .d (D.s c.1.fields)], .row 59 [.d (D.i .u8 x0.op), .n c21v178, .n c22v179, .n c23v180, .n c24v181, .n c25v182, .n c26v183], .row 183 [.pt 2 0], .lp f [.pt 0 0] .ready none, .row 176 [.d (D.s e.1.name), .d (D.s e.1.fields)]]) (f81_l1 M N O P Q R S e A) h (λ_ _ _ _ _ _ _ h=>by rw[f81_l1] at h;cases h) λn B c21v178 c22v179 c23v180 c24v181 c25v182 c26v183 h=>?_)))
 rw[f81_l1] at h
 refine Rcc 6 q (Ci h q (λh=>?_) λh=>?_)
 refine Rcl 6 q (Ix h uT vG q Zl q q λf' _ h=>(Rll 6 q (Al fY q (Rll 6 q ?_))))
 obtain⟨gg,bb,h⟩:=ae h
 refine Zq (di underlying9 q q bb) q (Rlc 9 q (Ci h q (λh=>?_) λh=>?_))
 refine Rcl 4 q ?_
 obtain⟨bd,bk,h⟩:=aB h
 refine WL.inl (us:=[.pt 2 1]) (λrv st'=>(bd ()=some r∧Le rv (.ag [.fn (.func 145) [] [.pt 7 0], .fn (.func 146) [] [.pt 7 0], .n 0, .n 0])∧SLe st' [.row 4 [.d (D.b false)], .row 176 [.d (D.s c.1.name), .d (D.s c.1.fields)], .row 59 [.d (D.i .u8 x0.op), .n c21v178, .n c22v179, .n c23v180, .n c24v181, .n c25v182, .n c26v183], .row 183 [.pt 2 0], .lp f [.pt 0 0] .ready none, .row 176 [.d (D.s e.1.name), .d (D.s e.1.fields)], .row 187 [.d (.v .nilFunc), .d (.v .nilFunc), .n 0, .n 0], .row 200 [.pt 2 1], .row 187 [.fn (.func 145) [] [.pt 7 0], .fn (.func 146) [] [.pt 7 0], .n 0, .n 0]])) q q q q q ?_ (Zw q) q q ?_
 refine cI func128 λ_ _ _ _=>?_
 exact Rcl 2 q (Bx q q q (Al fY q (Rll 6 q (Zq (ac rS fY q q) q (sS Z6 eJ Z2 (Rlx 3 q (ax (rs1 q (aZ q q sq eJ q)) ⟨h,Zl,⟨Zp,Zp,Zp,Zp,⟨q,Zs _,q,q⟩,Zp,Zp,Zp,Zp,Zt⟩⟩)))))))
 rintro rv g ⟨h,hr,hst⟩
 subst bk
 dsimp only at h
 refine WL.cast 35 q hr (WL.weak hst (sS Z6 eJ Z2 (WL.nil (Rxl 5 q ?_))))
 obtain⟨j,bl,h⟩:=ae h
 refine Zq (di underlying9 q q bl) q (wF Z4 (f130_c) Lw Z3 (Rl 4 q (sS Z6 s2 Z2 (Rl 1 q (sS Z6 s2 Z2 (Rll 6 q ?_))))))
 obtain⟨bs,b0,h⟩:=aB h
 obtain⟨b1,b2,h⟩:=aB h
 refine WL.yield (env0:=[(44, .ag [.fn (.func 145) [] [.pt 7 0], .fn (.func 146) [] [.pt 7 0], .n ((f130 j).1), .n ((f130 j).2)]),(2, .pt 0 0)]) (λrv st'=>(bs ()=some r∧rv= .d (.v (.bool false))∧SLe st' [.row 4 [.d (D.b false)], .row 176 [.d (D.s c.1.name), .d (D.s c.1.fields)], .row 59 [.d (D.i .u8 x0.op), .n c21v178, .n c22v179, .n c23v180, .n c24v181, .n c25v182, .n c26v183], .row 183 [.pt 2 0], .lp f [.pt 0 0] .done (some .ret), .row 176 [.d (D.s e.1.name), .d (D.s e.1.fields)], .row 187 [.fn (.func 145) [] [.pt 7 0], .fn (.func 146) [] [.pt 7 0], .n ((f130 j).1), .n ((f130 j).2)], .row 200 [.pt 2 1], .row 187 [.fn (.func 145) [] [.pt 7 0], .fn (.func 146) [] [.pt 7 0], .n 0, .n 0], .row 187 [.fn (.func 145) [] [.pt 7 0], .fn (.func 146) [] [.pt 7 0], .n ((f130 j).1), .n ((f130 j).2)]])∨(b1 ()=some r∧rv= .d (.v (.bool true))∧SLe st' [.row 4 [.d (D.b false)], .row 176 [.d (D.s c.1.name), .d (D.s c.1.fields)], .row 59 [.d (D.i .u8 x0.op), .n 0, .n c22v179, .n c23v180, .n c24v181, .n c25v182, .n c26v183], .row 183 [.pt 2 0], .lp f [.pt 0 0] .ready none, .row 176 [.d (D.s e.1.name), .d (D.s e.1.fields)], .row 187 [.fn (.func 145) [] [.pt 7 0], .fn (.func 146) [] [.pt 7 0], .n ((f130 j).1), .n ((f130 j).2)], .row 200 [.pt 2 1], .row 187 [.fn (.func 145) [] [.pt 7 0], .fn (.func 146) [] [.pt 7 0], .n 0, .n 0], .row 187 [.fn (.func 145) [] [.pt 7 0], .fn (.func 146) [] [.pt 7 0], .n ((f130 j).1), .n ((f130 j).2)]])) C q q q q q q q (λee hn F gl=>?_) (Zw q) q q ?_
 obtain⟨em,eφ,ew,en,er⟩:=ee
 subst hn
 refine Rcl 1 q (Al fY q (sS Z6 eJ Z2 (Rlx 1 q (jE F q (Rcl 6 q ?_)))))
 obtain⟨b3,b4,h⟩:=aB h
 refine WL.inl (us:=[.pt 7 0]) (λrv st'=>(b3 ()=some r∧Le rv (.n c21v178)∧SLe st' [.row 4 [.d (D.b false)], .row 176 [.d (D.s c.1.name), .d (D.s c.1.fields)], .row 59 [.d (D.i .u8 x0.op), .n c21v178, .n c22v179, .n c23v180, .n c24v181, .n c25v182, .n c26v183], .row 183 [.pt 2 0], .lp f [.pt 0 0] .busy none, .row 176 [.d (D.s e.1.name), .d (D.s e.1.fields)], .row 187 [.fn (.func 145) [] [.pt 7 0], .fn (.func 146) [] [.pt 7 0], .n ((f130 j).1), .n ((f130 j).2)], .row 200 [.pt 2 1], .row 187 [.fn (.func 145) [] [.pt 7 0], .fn (.func 146) [] [.pt 7 0], .n 0, .n 0], .row 187 [.fn (.func 145) [] [.pt 7 0], .fn (.func 146) [] [.pt 7 0], .n ((f130 j).1), .n ((f130 j).2)]])) q q q q q ?_ (Zw q) q q ?_
 refine cI func145 λ_ _ _ _=>?_
 exact Rcx 14 q (ax (rs1 q (aR q)) ⟨h,Zl,⟨Zp,Zp,Zp,Zp,⟨q,Zs _,q,q⟩,Zp,Zp,Zp,Zp,Zp,Zt⟩⟩)
 rintro rv g ⟨h,hr,hst⟩
 subst b4
 dsimp only at h
 refine WL.cast 47 q hr (WL.weak hst (Rl 1 q (Zn (Rcl 7 q ?_))))
 refine OG 5 52 57 5 5 ?_
 refine Rlc 2 q (Ci h q (λh=>?_) λh=>?_)
 exact Rcl 2 q (sS Z6 s4 Z2 (Rlx 5 q (dO F q (.inl ⟨h,q,⟨Zp,Zp,Zp,Zp,⟨q,Zs _,q,q⟩,Zp,Zp,Zp,Zp,Zp,Zt⟩⟩))))
 refine Rcl 5 q ?_
 obtain⟨b5,b6,h⟩:=aB h
 refine WL.inl (us:=[.n 0, .pt 7 0]) (λrv st'=>(b5 ()=some r∧Le rv (.tu [])∧SLe st' [.row 4 [.d (D.b false)], .row 176 [.d (D.s c.1.name), .d (D.s c.1.fields)], .row 59 [.d (D.i .u8 x0.op), .n 0, .n c22v179, .n c23v180, .n c24v181, .n c25v182, .n c26v183], .row 183 [.pt 2 0], .lp f [.pt 0 0] .busy none, .row 176 [.d (D.s e.1.name), .d (D.s e.1.fields)], .row 187 [.fn (.func 145) [] [.pt 7 0], .fn (.func 146) [] [.pt 7 0], .n ((f130 j).1), .n ((f130 j).2)], .row 200 [.pt 2 1], .row 187 [.fn (.func 145) [] [.pt 7 0], .fn (.func 146) [] [.pt 7 0], .n 0, .n 0], .row 187 [.fn (.func 145) [] [.pt 7 0], .fn (.func 146) [] [.pt 7 0], .n ((f130 j).1), .n ((f130 j).2)]])) q q q q q ?_ (Zw q) q q ?_
 refine cI func146 λ_ _ _ _=>?_
 exact Rcl 4 q (sS Z6 s3 Z2 (Rlx 1 q (bo (ax (bX q) ⟨h,Zl,⟨Zp,Zp,Zp,Zp,⟨q,Zs _,q,q⟩,Zp,Zp,Zp,Zp,Zp,Zt⟩⟩))))
 rintro rv g ⟨h,hr,hst⟩
 subst b6
 dsimp only at h
 exact WL.cast 60 q hr (WL.weak hst (WL.nil (Rxx 1 q (ie F q (.inr (⟨h,q,⟨Zp,Zp,Zp,Zp,⟨q,Zs _,q,q⟩,Zp,Zp,Zp,Zp,Zp,Zt⟩⟩))))))
 rintro rv g (⟨h,rfl,hst⟩|⟨h,rfl,hst⟩)
 subst b0
 dsimp only at h
 exact WL.weak hst (Rl 1 q (Zn (cO q (Rcx 5 q (ax (bX q) (.inl ⟨c21v178,c22v179,c23v180,c24v181,c25v182,c26v183,e.1.name,e.1.fields,((f130 j).1),((f130 j).2),((f130 j).1),((f130 j).2),h,⟨Zp,Zp,Zp,Zp,⟨q,Zs _,q,q⟩,Zp,Zp,Zp,Zp,Zp,Zt⟩⟩))))))
 subst b2
 dsimp only at h
 exact WL.weak hst (Rl 1 q (Zn (bz q (Rcx 7 q (WE.drop 6 (env':=[(0, .yl 4),(1, .pt 3 0),(18, .l E9 A),(19, .n (List.length A:Int)),(20, .n (IntKind.i64.wrap (B+1)))]) Sb q q (Nat.le_trans (Nat.le_of_eq E) (nbT q)) (Fn7 h))))))
 refine Rcc 6 q (Ci h q (λh=>?_) λh=>?_)
 refine Rcl 4 q ?_
 obtain⟨b7,b8,h⟩:=aB h
 refine WL.inl (us:=[.pt 2 2]) (λrv st'=>(b7 ()=some r∧Le rv (.ag [.fn (.func 145) [] [.pt 7 0], .fn (.func 146) [] [.pt 7 0], .n 0, .n 0])∧SLe st' [.row 4 [.d (D.b false)], .row 176 [.d (D.s c.1.name), .d (D.s c.1.fields)], .row 59 [.d (D.i .u8 x0.op), .n c21v178, .n c22v179, .n c23v180, .n c24v181, .n c25v182, .n c26v183], .row 183 [.pt 2 0], .lp f [.pt 0 0] .ready none, .row 176 [.d (D.s e.1.name), .d (D.s e.1.fields)], .row 187 [.d (.v .nilFunc), .d (.v .nilFunc), .n 0, .n 0], .row 200 [.pt 2 2], .row 187 [.fn (.func 145) [] [.pt 7 0], .fn (.func 146) [] [.pt 7 0], .n 0, .n 0]])) q q q q q ?_ (Zw q) q q ?_
 refine cI func128 λ_ _ _ _=>?_
 exact Rcl 2 q (Bx q q q (Al fY q (Rll 6 q (Zq (ac rS fY q q) q (sS Z6 eJ Z2 (Rlx 3 q (ax (rs1 q (aZ q q sq eJ q)) ⟨h,Zl,⟨Zp,Zp,Zp,Zp,⟨q,Zs _,q,q⟩,Zp,Zp,Zp,Zp,Zt⟩⟩)))))))
 rintro rv g ⟨h,hr,hst⟩
 subst b8
 dsimp only at h
 refine WL.cast 41 q hr (WL.weak hst (sS Z6 eJ Z2 (WL.nil (Rxl 5 q ?_))))
 obtain⟨k,b9,h⟩:=ae h
 refine Zq (di underlying9 q q b9) q (wF Z4 (f130_c) Lw Z3 (Rl 4 q (sS Z6 s2 Z2 (Rl 1 q (sS Z6 s2 Z2 (Rll 6 q ?_))))))
 obtain⟨b',ca,h⟩:=aB h
 obtain⟨cb,cc,h⟩:=aB h
 refine WL.yield (env0:=[(44, .ag [.fn (.func 145) [] [.pt 7 0], .fn (.func 146) [] [.pt 7 0], .n ((f130 k).1), .n ((f130 k).2)]),(2, .pt 0 0)]) (λrv st'=>(b' ()=some r∧rv= .d (.v (.bool false))∧SLe st' [.row 4 [.d (D.b false)], .row 176 [.d (D.s c.1.name), .d (D.s c.1.fields)], .row 59 [.d (D.i .u8 x0.op), .n c21v178, .n c22v179, .n c23v180, .n c24v181, .n c25v182, .n c26v183], .row 183 [.pt 2 0], .lp f [.pt 0 0] .done (some .ret), .row 176 [.d (D.s e.1.name), .d (D.s e.1.fields)], .row 187 [.fn (.func 145) [] [.pt 7 0], .fn (.func 146) [] [.pt 7 0], .n ((f130 k).1), .n ((f130 k).2)], .row 200 [.pt 2 2], .row 187 [.fn (.func 145) [] [.pt 7 0], .fn (.func 146) [] [.pt 7 0], .n 0, .n 0], .row 187 [.fn (.func 145) [] [.pt 7 0], .fn (.func 146) [] [.pt 7 0], .n ((f130 k).1), .n ((f130 k).2)]])∨(cb ()=some r∧rv= .d (.v (.bool true))∧SLe st' [.row 4 [.d (D.b false)], .row 176 [.d (D.s c.1.name), .d (D.s c.1.fields)], .row 59 [.d (D.i .u8 x0.op), .n c21v178, .n 0, .n c23v180, .n c24v181, .n c25v182, .n c26v183], .row 183 [.pt 2 0], .lp f [.pt 0 0] .ready none, .row 176 [.d (D.s e.1.name), .d (D.s e.1.fields)], .row 187 [.fn (.func 145) [] [.pt 7 0], .fn (.func 146) [] [.pt 7 0], .n ((f130 k).1), .n ((f130 k).2)], .row 200 [.pt 2 2], .row 187 [.fn (.func 145) [] [.pt 7 0], .fn (.func 146) [] [.pt 7 0], .n 0, .n 0], .row 187 [.fn (.func 145) [] [.pt 7 0], .fn (.func 146) [] [.pt 7 0], .n ((f130 k).1), .n ((f130 k).2)]])) C q q q q q q q (λee hn G gm=>?_) (Zw q) q q ?_
 obtain⟨em,eφ,ew,en,er⟩:=ee
 subst hn
 refine Rcl 1 q (Al fY q (sS Z6 eJ Z2 (Rlx 1 q (jE G q (Rcl 6 q ?_)))))
 obtain⟨cd,cf,h⟩:=aB h
 refine WL.inl (us:=[.pt 7 0]) (λrv st'=>(cd ()=some r∧Le rv (.n c22v179)∧SLe st' [.row 4 [.d (D.b false)], .row 176 [.d (D.s c.1.name), .d (D.s c.1.fields)], .row 59 [.d (D.i .u8 x0.op), .n c21v178, .n c22v179, .n c23v180, .n c24v181, .n c25v182, .n c26v183], .row 183 [.pt 2 0], .lp f [.pt 0 0] .busy none, .row 176 [.d (D.s e.1.name), .d (D.s e.1.fields)], .row 187 [.fn (.func 145) [] [.pt 7 0], .fn (.func 146) [] [.pt 7 0], .n ((f130 k).1), .n ((f130 k).2)], .row 200 [.pt 2 2], .row 187 [.fn (.func 145) [] [.pt 7 0], .fn (.func 146) [] [.pt 7 0], .n 0, .n 0], .row 187 [.fn (.func 145) [] [.pt 7 0], .fn (.func 146) [] [.pt 7 0], .n ((f130 k).1), .n ((f130 k).2)]])) q q q q q ?_ (Zw q) q q ?_
 refine cI func145 λ_ _ _ _=>?_
 exact Rcx 14 q (ax (rs1 q (aR q)) ⟨h,Zl,⟨Zp,Zp,Zp,Zp,⟨q,Zs _,q,q⟩,Zp,Zp,Zp,Zp,Zp,Zt⟩⟩)
 rintro rv g ⟨h,hr,hst⟩
 subst cf
 dsimp only at h
 refine WL.cast 47 q hr (WL.weak hst (Rl 1 q (Zn (Rcl 7 q ?_))))
 refine OG 5 52 57 5 5 ?_
 refine Rlc 2 q (Ci h q (λh=>?_) λh=>?_)
 exact Rcl 2 q (sS Z6 s4 Z2 (Rlx 5 q (dO G q (.inl ⟨h,q,⟨Zp,Zp,Zp,Zp,⟨q,Zs _,q,q⟩,Zp,Zp,Zp,Zp,Zp,Zt⟩⟩))))
 refine Rcl 5 q ?_
 obtain⟨ci,cj,h⟩:=aB h
 refine WL.inl (us:=[.n 0, .pt 7 0]) (λrv st'=>(ci ()=some r∧Le rv (.tu [])∧SLe st' [.row 4 [.d (D.b false)], .row 176 [.d (D.s c.1.name), .d (D.s c.1.fields)], .row 59 [.d (D.i .u8 x0.op), .n c21v178, .n 0, .n c23v180, .n c24v181, .n c25v182, .n c26v183], .row 183 [.pt 2 0], .lp f [.pt 0 0] .busy none, .row 176 [.d (D.s e.1.name), .d (D.s e.1.fields)], .row 187 [.fn (.func 145) [] [.pt 7 0], .fn (.func 146) [] [.pt 7 0], .n ((f130 k).1), .n ((f130 k).2)], .row 200 [.pt 2 2], .row 187 [.fn (.func 145) [] [.pt 7 0], .fn (.func 146) [] [.pt 7 0], .n 0, .n 0], .row 187 [.fn (.func 145) [] [.pt 7 0], .fn (.func 146) [] [.pt 7 0], .n ((f130 k).1), .n ((f130 k).2)]])) q q q q q ?_ (Zw q) q q ?_
 refine cI func146 λ_ _ _ _=>?_
 exact Rcl 4 q (sS Z6 s3 Z2 (Rlx 1 q (bo (ax (bX q) ⟨h,Zl,⟨Zp,Zp,Zp,Zp,⟨q,Zs _,q,q⟩,Zp,Zp,Zp,Zp,Zp,Zt⟩⟩))))
 rintro rv g ⟨h,hr,hst⟩
 subst cj
 dsimp only at h
 exact WL.cast 60 q hr (WL.weak hst (WL.nil (Rxx 1 q (ie G q (.inr (⟨h,q,⟨Zp,Zp,Zp,Zp,⟨q,Zs _,q,q⟩,Zp,Zp,Zp,Zp,Zp,Zt⟩⟩))))))
 rintro rv g (⟨h,rfl,hst⟩|⟨h,rfl,hst⟩)
 subst ca
 dsimp only at h
 exact WL.weak hst (Rl 1 q (Zn (cO q (Rcx 5 q (ax (bX q) (.inr (.inl ⟨c21v178,c22v179,c23v180,c24v181,c25v182,c26v183,e.1.name,e.1.fields,((f130 k).1),((f130 k).2),((f130 k).1),((f130 k).2),h,⟨Zp,Zp,Zp,Zp,⟨q,Zs _,q,q⟩,Zp,Zp,Zp,Zp,Zp,Zt⟩⟩)))))))
 subst cc
 dsimp only at h
 exact WL.weak hst (Rl 1 q (Zn (bz q (Rcx 7 q (WE.drop 6 (env':=[(0, .yl 4),(1, .pt 3 0),(18, .l E9 A),(19, .n (List.length A:Int)),(20, .n (IntKind.i64.wrap (B+1)))]) Sb q q (Nat.le_trans (Nat.le_of_eq E) (nbT q)) (Fn7 h))))))
 refine Rcc 6 q (Ci h q (λh=>?_) λh=>?_)
 refine Rcl 4 q ?_
 obtain⟨cl,cn,h⟩:=aB h
 refine WL.inl (us:=[.pt 2 3]) (λrv st'=>(cl ()=some r∧Le rv (.ag [.fn (.func 145) [] [.pt 7 0], .fn (.func 146) [] [.pt 7 0], .n 0, .n 0])∧SLe st' [.row 4 [.d (D.b false)], .row 176 [.d (D.s c.1.name), .d (D.s c.1.fields)], .row 59 [.d (D.i .u8 x0.op), .n c21v178, .n c22v179, .n c23v180, .n c24v181, .n c25v182, .n c26v183], .row 183 [.pt 2 0], .lp f [.pt 0 0] .ready none, .row 176 [.d (D.s e.1.name), .d (D.s e.1.fields)], .row 187 [.d (.v .nilFunc), .d (.v .nilFunc), .n 0, .n 0], .row 200 [.pt 2 3], .row 187 [.fn (.func 145) [] [.pt 7 0], .fn (.func 146) [] [.pt 7 0], .n 0, .n 0]])) q q q q q ?_ (Zw q) q q ?_
 refine cI func128 λ_ _ _ _=>?_
 exact Rcl 2 q (Bx q q q (Al fY q (Rll 6 q (Zq (ac rS fY q q) q (sS Z6 eJ Z2 (Rlx 3 q (ax (rs1 q (aZ q q sq eJ q)) ⟨h,Zl,⟨Zp,Zp,Zp,Zp,⟨q,Zs _,q,q⟩,Zp,Zp,Zp,Zp,Zt⟩⟩)))))))
 rintro rv g ⟨h,hr,hst⟩
 subst cn
 dsimp only at h
 refine WL.cast 47 q hr (WL.weak hst (sS Z6 eJ Z2 (WL.nil (Rxl 5 q ?_))))
 obtain⟨p,cp,h⟩:=ae h
 refine Zq (di underlying9 q q cp) q (wF Z4 (f130_c) Lw Z3 (Rl 4 q (sS Z6 s2 Z2 (Rl 1 q (sS Z6 s2 Z2 (Rll 6 q ?_))))))
 obtain⟨cx,cz,h⟩:=aB h
 obtain⟨c0,c1,h⟩:=aB h
 refine WL.yield (env0:=[(44, .ag [.fn (.func 145) [] [.pt 7 0], .fn (.func 146) [] [.pt 7 0], .n ((f130 p).1), .n ((f130 p).2)]),(2, .pt 0 0)]) (λrv st'=>(cx ()=some r∧rv= .d (.v (.bool false))∧SLe st' [.row 4 [.d (D.b false)], .row 176 [.d (D.s c.1.name), .d (D.s c.1.fields)], .row 59 [.d (D.i .u8 x0.op), .n c21v178, .n c22v179, .n c23v180, .n c24v181, .n c25v182, .n c26v183], .row 183 [.pt 2 0], .lp f [.pt 0 0] .done (some .ret), .row 176 [.d (D.s e.1.name), .d (D.s e.1.fields)], .row 187 [.fn (.func 145) [] [.pt 7 0], .fn (.func 146) [] [.pt 7 0], .n ((f130 p).1), .n ((f130 p).2)], .row 200 [.pt 2 3], .row 187 [.fn (.func 145) [] [.pt 7 0], .fn (.func 146) [] [.pt 7 0], .n 0, .n 0], .row 187 [.fn (.func 145) [] [.pt 7 0], .fn (.func 146) [] [.pt 7 0], .n ((f130 p).1), .n ((f130 p).2)]])∨(c0 ()=some r∧rv= .d (.v (.bool true))∧SLe st' [.row 4 [.d (D.b false)], .row 176 [.d (D.s c.1.name), .d (D.s c.1.fields)], .row 59 [.d (D.i .u8 x0.op), .n c21v178, .n c22v179, .n 0, .n c24v181, .n c25v182, .n c26v183], .row 183 [.pt 2 0], .lp f [.pt 0 0] .ready none, .row 176 [.d (D.s e.1.name), .d (D.s e.1.fields)], .row 187 [.fn (.func 145) [] [.pt 7 0], .fn (.func 146) [] [.pt 7 0], .n ((f130 p).1), .n ((f130 p).2)], .row 200 [.pt 2 3], .row 187 [.fn (.func 145) [] [.pt 7 0], .fn (.func 146) [] [.pt 7 0], .n 0, .n 0], .row 187 [.fn (.func 145) [] [.pt 7 0], .fn (.func 146) [] [.pt 7 0], .n ((f130 p).1), .n ((f130 p).2)]])) C q q q q q q q (λee hn H gs=>?_) (Zw q) q q ?_
 obtain⟨em,eφ,ew,en,er⟩:=ee
 subst hn
 refine Rcl 1 q (Al fY q (sS Z6 eJ Z2 (Rlx 1 q (jE H q (Rcl 6 q ?_)))))
 obtain⟨c2,c',h⟩:=aB h
 refine WL.inl (us:=[.pt 7 0]) (λrv st'=>(c2 ()=some r∧Le rv (.n c23v180)∧SLe st' [.row 4 [.d (D.b false)], .row 176 [.d (D.s c.1.name), .d (D.s c.1.fields)], .row 59 [.d (D.i .u8 x0.op), .n c21v178, .n c22v179, .n c23v180, .n c24v181, .n c25v182, .n c26v183], .row 183 [.pt 2 0], .lp f [.pt 0 0] .busy none, .row 176 [.d (D.s e.1.name), .d (D.s e.1.fields)], .row 187 [.fn (.func 145) [] [.pt 7 0], .fn (.func 146) [] [.pt 7 0], .n ((f130 p).1), .n ((f130 p).2)], .row 200 [.pt 2 3], .row 187 [.fn (.func 145) [] [.pt 7 0], .fn (.func 146) [] [.pt 7 0], .n 0, .n 0], .row 187 [.fn (.func 145) [] [.pt 7 0], .fn (.func 146) [] [.pt 7 0], .n ((f130 p).1), .n ((f130 p).2)]])) q q q q q ?_ (Zw q) q q ?_
 refine cI func145 λ_ _ _ _=>?_
 exact Rcx 14 q (ax (rs1 q (aR q)) ⟨h,Zl,⟨Zp,Zp,Zp,Zp,⟨q,Zs _,q,q⟩,Zp,Zp,Zp,Zp,Zp,Zt⟩⟩)
 rintro rv g ⟨h,hr,hst⟩
 subst c'
 dsimp only at h
 refine WL.cast 47 q hr (WL.weak hst (Rl 1 q (Zn (Rcl 7 q ?_))))
 refine OG 5 52 57 5 5 ?_
 refine Rlc 2 q (Ci h q (λh=>?_) λh=>?_)
 exact Rcl 2 q (sS Z6 s4 Z2 (Rlx 5 q (dO H q (.inl ⟨h,q,⟨Zp,Zp,Zp,Zp,⟨q,Zs _,q,q⟩,Zp,Zp,Zp,Zp,Zp,Zt⟩⟩))))
 refine Rcl 5 q ?_
 obtain⟨dd,df,h⟩:=aB h
 refine WL.inl (us:=[.n 0, .pt 7 0]) (λrv st'=>(dd ()=some r∧Le rv (.tu [])∧SLe st' [.row 4 [.d (D.b false)], .row 176 [.d (D.s c.1.name), .d (D.s c.1.fields)], .row 59 [.d (D.i .u8 x0.op), .n c21v178, .n c22v179, .n 0, .n c24v181, .n c25v182, .n c26v183], .row 183 [.pt 2 0], .lp f [.pt 0 0] .busy none, .row 176 [.d (D.s e.1.name), .d (D.s e.1.fields)], .row 187 [.fn (.func 145) [] [.pt 7 0], .fn (.func 146) [] [.pt 7 0], .n ((f130 p).1), .n ((f130 p).2)], .row 200 [.pt 2 3], .row 187 [.fn (.func 145) [] [.pt 7 0], .fn (.func 146) [] [.pt 7 0], .n 0, .n 0], .row 187 [.fn (.func 145) [] [.pt 7 0], .fn (.func 146) [] [.pt 7 0], .n ((f130 p).1), .n ((f130 p).2)]])) q q q q q ?_ (Zw q) q q ?_
 refine cI func146 λ_ _ _ _=>?_
 exact Rcl 4 q (sS Z6 s3 Z2 (Rlx 1 q (bo (ax (bX q) ⟨h,Zl,⟨Zp,Zp,Zp,Zp,⟨q,Zs _,q,q⟩,Zp,Zp,Zp,Zp,Zp,Zt⟩⟩))))
 rintro rv g ⟨h,hr,hst⟩
 subst df
 dsimp only at h
 exact WL.cast 60 q hr (WL.weak hst (WL.nil (Rxx 1 q (ie H q (.inr (⟨h,q,⟨Zp,Zp,Zp,Zp,⟨q,Zs _,q,q⟩,Zp,Zp,Zp,Zp,Zp,Zt⟩⟩))))))
 rintro rv g (⟨h,rfl,hst⟩|⟨h,rfl,hst⟩)
 subst cz
 dsimp only at h
 exact WL.weak hst (Rl 1 q (Zn (cO q (Rcx 5 q (ax (bX q) (.inr (.inr (.inl ⟨c21v178,c22v179,c23v180,c24v181,c25v182,c26v183,e.1.name,e.1.fields,((f130 p).1),((f130 p).2),((f130 p).1),((f130 p).2),h,⟨Zp,Zp,Zp,Zp,⟨q,Zs _,q,q⟩,Zp,Zp,Zp,Zp,Zp,Zt⟩⟩))))))))
 subst c1
 dsimp only at h
 exact WL.weak hst (Rl 1 q (Zn (bz q (Rcx 7 q (WE.drop 6 (env':=[(0, .yl 4),(1, .pt 3 0),(18, .l E9 A),(19, .n (List.length A:Int)),(20, .n (IntKind.i64.wrap (B+1)))]) Sb q q (Nat.le_trans (Nat.le_of_eq E) (nbT q)) (Fn7 h))))))
 refine Rcc 6 q (Ci h q (λh=>?_) λh=>?_)
 refine Rcl 4 q ?_
 obtain⟨ds,dS,h⟩:=aB h
 refine WL.inl (us:=[.pt 2 4]) (λrv st'=>(ds ()=some r∧Le rv (.ag [.fn (.func 147) [] [.pt 7 0], .fn (.func 148) [] [.pt 7 0], .n 0, .n 0])∧SLe st' [.row 4 [.d (D.b false)], .row 176 [.d (D.s c.1.name), .d (D.s c.1.fields)], .row 59 [.d (D.i .u8 x0.op), .n c21v178, .n c22v179, .n c23v180, .n c24v181, .n c25v182, .n c26v183], .row 183 [.pt 2 0], .lp f [.pt 0 0] .ready none, .row 176 [.d (D.s e.1.name), .d (D.s e.1.fields)], .row 187 [.d (.v .nilFunc), .d (.v .nilFunc), .n 0, .n 0], .row 202 [.pt 2 4], .row 187 [.fn (.func 147) [] [.pt 7 0], .fn (.func 148) [] [.pt 7 0], .n 0, .n 0]])) q q q q q ?_ (Zw q) q q ?_
 refine cI func129 λ_ _ _ _=>?_
 exact Rcl 2 q (Bx q q q (Al fY q (Rll 6 q (Zq (ac rS fY q q) q (sS Z6 eJ Z2 (Rlx 3 q (ax (rs1 q (aZ q q sq eJ q)) ⟨h,Zl,⟨Zp,Zp,Zp,Zp,⟨q,Zs _,q,q⟩,Zp,Zp,Zp,Zp,Zt⟩⟩)))))))
 rintro rv g ⟨h,hr,hst⟩
 subst dS
 dsimp only at h
 refine WL.cast 53 q hr (WL.weak hst (sS Z6 eJ Z2 (WL.nil (Rxl 5 q ?_))))
 obtain⟨w,d0,h⟩:=ae h
 refine Zq (di underlying9 q q d0) q (wF Z4 (f130_c) Lw Z3 (Rl 4 q (sS Z6 s2 Z2 (Rl 1 q (sS Z6 s2 Z2 (Rll 6 q ?_))))))
 obtain⟨d1,d2,h⟩:=aB h
 obtain⟨d',ea,h⟩:=aB h
 refine WL.yield (env0:=[(44, .ag [.fn (.func 147) [] [.pt 7 0], .fn (.func 148) [] [.pt 7 0], .n ((f130 w).1), .n ((f130 w).2)]),(2, .pt 0 0)]) (λrv st'=>(d1 ()=some r∧rv= .d (.v (.bool false))∧SLe st' [.row 4 [.d (D.b false)], .row 176 [.d (D.s c.1.name), .d (D.s c.1.fields)], .row 59 [.d (D.i .u8 x0.op), .n c21v178, .n c22v179, .n c23v180, .n c24v181, .n c25v182, .n c26v183], .row 183 [.pt 2 0], .lp f [.pt 0 0] .done (some .ret), .row 176 [.d (D.s e.1.name), .d (D.s e.1.fields)], .row 187 [.fn (.func 147) [] [.pt 7 0], .fn (.func 148) [] [.pt 7 0], .n ((f130 w).1), .n ((f130 w).2)], .row 202 [.pt 2 4], .row 187 [.fn (.func 147) [] [.pt 7 0], .fn (.func 148) [] [.pt 7 0], .n 0, .n 0], .row 187 [.fn (.func 147) [] [.pt 7 0], .fn (.func 148) [] [.pt 7 0], .n ((f130 w).1), .n ((f130 w).2)]])∨(d' ()=some r∧rv= .d (.v (.bool true))∧SLe st' [.row 4 [.d (D.b false)], .row 176 [.d (D.s c.1.name), .d (D.s c.1.fields)], .row 59 [.d (D.i .u8 x0.op), .n c21v178, .n c22v179, .n c23v180, .n 0, .n c25v182, .n c26v183], .row 183 [.pt 2 0], .lp f [.pt 0 0] .ready none, .row 176 [.d (D.s e.1.name), .d (D.s e.1.fields)], .row 187 [.fn (.func 147) [] [.pt 7 0], .fn (.func 148) [] [.pt 7 0], .n ((f130 w).1), .n ((f130 w).2)], .row 202 [.pt 2 4], .row 187 [.fn (.func 147) [] [.pt 7 0], .fn (.func 148) [] [.pt 7 0], .n 0, .n 0], .row 187 [.fn (.func 147) [] [.pt 7 0], .fn (.func 148) [] [.pt 7 0], .n ((f130 w).1), .n ((f130 w).2)]])) C q q q q q q q (λee hn I gu=>?_) (Zw q) q q ?_
 obtain⟨em,eφ,ew,en,er⟩:=ee
 subst hn
 refine Rcl 1 q (Al fY q (sS Z6 eJ Z2 (Rlx 1 q (jE I q (Rcl 6 q ?_)))))
 obtain⟨eb,ec,h⟩:=aB h
 refine WL.inl (us:=[.pt 7 0]) (λrv st'=>(eb ()=some r∧Le rv (.n c24v181)∧SLe st' [.row 4 [.d (D.b false)], .row 176 [.d (D.s c.1.name), .d (D.s c.1.fields)], .row 59 [.d (D.i .u8 x0.op), .n c21v178, .n c22v179, .n c23v180, .n c24v181, .n c25v182, .n c26v183], .row 183 [.pt 2 0], .lp f [.pt 0 0] .busy none, .row 176 [.d (D.s e.1.name), .d (D.s e.1.fields)], .row 187 [.fn (.func 147) [] [.pt 7 0], .fn (.func 148) [] [.pt 7 0], .n ((f130 w).1), .n ((f130 w).2)], .row 202 [.pt 2 4], .row 187 [.fn (.func 147) [] [.pt 7 0], .fn (.func 148) [] [.pt 7 0], .n 0, .n 0], .row 187 [.fn (.func 147) [] [.pt 7 0], .fn (.func 148) [] [.pt 7 0], .n ((f130 w).1), .n ((f130 w).2)]])) q q q q q ?_ (Zw q) q q ?_
 refine cI func147 λ_ _ _ _=>?_
 exact Rcx 14 q (ax (rs1 q (aR q)) ⟨h,Zl,⟨Zp,Zp,Zp,Zp,⟨q,Zs _,q,q⟩,Zp,Zp,Zp,Zp,Zp,Zt⟩⟩)
 rintro rv g ⟨h,hr,hst⟩
 subst ec
 dsimp only at h
 refine WL.cast 47 q hr (WL.weak hst (Rl 1 q (Zn (Rcl 7 q ?_))))
 refine OG 5 52 57 5 5 ?_
 refine Rlc 2 q (Ci h q (λh=>?_) λh=>?_)
 exact Rcl 2 q (sS Z6 s4 Z2 (Rlx 5 q (dO I q (.inl ⟨h,q,⟨Zp,Zp,Zp,Zp,⟨q,Zs _,q,q⟩,Zp,Zp,Zp,Zp,Zp,Zt⟩⟩))))
 refine Rcl 5 q ?_
 obtain⟨eg,ei,h⟩:=aB h
 refine WL.inl (us:=[.n 0, .pt 7 0]) (λrv st'=>(eg ()=some r∧Le rv (.tu [])∧SLe st' [.row 4 [.d (D.b false)], .row 176 [.d (D.s c.1.name), .d (D.s c.1.fields)], .row 59 [.d (D.i .u8 x0.op), .n c21v178, .n c22v179, .n c23v180, .n 0, .n c25v182, .n c26v183], .row 183 [.pt 2 0], .lp f [.pt 0 0] .busy none, .row 176 [.d (D.s e.1.name), .d (D.s e.1.fields)], .row 187 [.fn (.func 147) [] [.pt 7 0], .fn (.func 148) [] [.pt 7 0], .n ((f130 w).1), .n ((f130 w).2)], .row 202 [.pt 2 4], .row 187 [.fn (.func 147) [] [.pt 7 0], .fn (.func 148) [] [.pt 7 0], .n 0, .n 0], .row 187 [.fn (.func 147) [] [.pt 7 0], .fn (.func 148) [] [.pt 7 0], .n ((f130 w).1), .n ((f130 w).2)]])) q q q q q ?_ (Zw q) q q ?_
 refine cI func148 λ_ _ _ _=>?_
 exact Rcl 4 q (sS Z6 s2 Z2 (Rlx 1 q (bo (ax (bX q) ⟨h,Zl,⟨Zp,Zp,Zp,Zp,⟨q,Zs _,q,q⟩,Zp,Zp,Zp,Zp,Zp,Zt⟩⟩))))
 rintro rv g ⟨h,hr,hst⟩
 subst ei
 dsimp only at h
 exact WL.cast 60 q hr (WL.weak hst (WL.nil (Rxx 1 q (ie I q (.inr (⟨h,q,⟨Zp,Zp,Zp,Zp,⟨q,Zs _,q,q⟩,Zp,Zp,Zp,Zp,Zp,Zt⟩⟩))))))
 rintro rv g (⟨h,rfl,hst⟩|⟨h,rfl,hst⟩)
 subst d2
 dsimp only at h
 exact WL.weak hst (Rl 1 q (Zn (cO q (Rcx 5 q (ax (bX q) (.inr (.inr (.inr (.inl ⟨c21v178,c22v179,c23v180,c24v181,c25v182,c26v183,e.1.name,e.1.fields,((f130 w).1),((f130 w).2),((f130 w).1),((f130 w).2),h,⟨Zp,Zp,Zp,Zp,⟨q,Zs _,q,q⟩,Zp,Zp,Zp,Zp,Zp,Zt⟩⟩)))))))))
 subst ea
 dsimp only at h
 exact WL.weak hst (Rl 1 q (Zn (bz q (Rcx 7 q (WE.drop 6 (env':=[(0, .yl 4),(1, .pt 3 0),(18, .l E9 A),(19, .n (List.length A:Int)),(20, .n (IntKind.i64.wrap (B+1)))]) Sb q q (Nat.le_trans (Nat.le_of_eq E) (nbT q)) (Fn7 h))))))
 refine Rcc 6 q (Ci h q (λh=>?_) λh=>?_)
 refine Rcl 4 q ?_
 obtain⟨ek,es,h⟩:=aB h
 refine WL.inl (us:=[.pt 2 5]) (λrv st'=>(ek ()=some r∧Le rv (.ag [.fn (.func 147) [] [.pt 7 0], .fn (.func 148) [] [.pt 7 0], .n 0, .n 0])∧SLe st' [.row 4 [.d (D.b false)], .row 176 [.d (D.s c.1.name), .d (D.s c.1.fields)], .row 59 [.d (D.i .u8 x0.op), .n c21v178, .n c22v179, .n c23v180, .n c24v181, .n c25v182, .n c26v183], .row 183 [.pt 2 0], .lp f [.pt 0 0] .ready none, .row 176 [.d (D.s e.1.name), .d (D.s e.1.fields)], .row 187 [.d (.v .nilFunc), .d (.v .nilFunc), .n 0, .n 0], .row 202 [.pt 2 5], .row 187 [.fn (.func 147) [] [.pt 7 0], .fn (.func 148) [] [.pt 7 0], .n 0, .n 0]])) q q q q q ?_ (Zw q) q q ?_
 refine cI func129 λ_ _ _ _=>?_
 exact Rcl 2 q (Bx q q q (Al fY q (Rll 6 q (Zq (ac rS fY q q) q (sS Z6 eJ Z2 (Rlx 3 q (ax (rs1 q (aZ q q sq eJ q)) ⟨h,Zl,⟨Zp,Zp,Zp,Zp,⟨q,Zs _,q,q⟩,Zp,Zp,Zp,Zp,Zt⟩⟩)))))))
 rintro rv g ⟨h,hr,hst⟩
 subst es
 dsimp only at h
 refine WL.cast 59 q hr (WL.weak hst (sS Z6 eJ Z2 (WL.nil (Rxl 5 q ?_))))
 obtain⟨x,et,h⟩:=ae h
 refine Zq (di underlying9 q q et) q (wF Z4 (f130_c) Lw Z3 (Rl 4 q (sS Z6 s2 Z2 (Rl 1 q (sS Z6 s2 Z2 (Rll 6 q ?_))))))
 obtain⟨ex,ey,h⟩:=aB h
 obtain⟨e0,e1,h⟩:=aB h
 refine WL.yield (env0:=[(44, .ag [.fn (.func 147) [] [.pt 7 0], .fn (.func 148) [] [.pt 7 0], .n ((f130 x).1), .n ((f130 x).2)]),(2, .pt 0 0)]) (λrv st'=>(ex ()=some r∧rv= .d (.v (.bool false))∧SLe st' [.row 4 [.d (D.b false)], .row 176 [.d (D.s c.1.name), .d (D.s c.1.fields)], .row 59 [.d (D.i .u8 x0.op), .n c21v178, .n c22v179, .n c23v180, .n c24v181, .n c25v182, .n c26v183], .row 183 [.pt 2 0], .lp f [.pt 0 0] .done (some .ret), .row 176 [.d (D.s e.1.name), .d (D.s e.1.fields)], .row 187 [.fn (.func 147) [] [.pt 7 0], .fn (.func 148) [] [.pt 7 0], .n ((f130 x).1), .n ((f130 x).2)], .row 202 [.pt 2 5], .row 187 [.fn (.func 147) [] [.pt 7 0], .fn (.func 148) [] [.pt 7 0], .n 0, .n 0], .row 187 [.fn (.func 147) [] [.pt 7 0], .fn (.func 148) [] [.pt 7 0], .n ((f130 x).1), .n ((f130 x).2)]])∨(e0 ()=some r∧rv= .d (.v (.bool true))∧SLe st' [.row 4 [.d (D.b false)], .row 176 [.d (D.s c.1.name), .d (D.s c.1.fields)], .row 59 [.d (D.i .u8 x0.op), .n c21v178, .n c22v179, .n c23v180, .n c24v181, .n 0, .n c26v183], .row 183 [.pt 2 0], .lp f [.pt 0 0] .ready none, .row 176 [.d (D.s e.1.name), .d (D.s e.1.fields)], .row 187 [.fn (.func 147) [] [.pt 7 0], .fn (.func 148) [] [.pt 7 0], .n ((f130 x).1), .n ((f130 x).2)], .row 202 [.pt 2 5], .row 187 [.fn (.func 147) [] [.pt 7 0], .fn (.func 148) [] [.pt 7 0], .n 0, .n 0], .row 187 [.fn (.func 147) [] [.pt 7 0], .fn (.func 148) [] [.pt 7 0], .n ((f130 x).1), .n ((f130 x).2)]])) C q q q q q q q (λee hn K gx=>?_) (Zw q) q q ?_
 obtain⟨em,eφ,ew,en,er⟩:=ee
 subst hn
 refine Rcl 1 q (Al fY q (sS Z6 eJ Z2 (Rlx 1 q (jE K q (Rcl 6 q ?_)))))
 obtain⟨e2,e3,h⟩:=aB h
 refine WL.inl (us:=[.pt 7 0]) (λrv st'=>(e2 ()=some r∧Le rv (.n c25v182)∧SLe st' [.row 4 [.d (D.b false)], .row 176 [.d (D.s c.1.name), .d (D.s c.1.fields)], .row 59 [.d (D.i .u8 x0.op), .n c21v178, .n c22v179, .n c23v180, .n c24v181, .n c25v182, .n c26v183], .row 183 [.pt 2 0], .lp f [.pt 0 0] .busy none, .row 176 [.d (D.s e.1.name), .d (D.s e.1.fields)], .row 187 [.fn (.func 147) [] [.pt 7 0], .fn (.func 148) [] [.pt 7 0], .n ((f130 x).1), .n ((f130 x).2)], .row 202 [.pt 2 5], .row 187 [.fn (.func 147) [] [.pt 7 0], .fn (.func 148) [] [.pt 7 0], .n 0, .n 0], .row 187 [.fn (.func 147) [] [.pt 7 0], .fn (.func 148) [] [.pt 7 0], .n ((f130 x).1), .n ((f130 x).2)]])) q q q q q ?_ (Zw q) q q ?_
 refine cI func147 λ_ _ _ _=>?_
 exact Rcx 14 q (ax (rs1 q (aR q)) ⟨h,Zl,⟨Zp,Zp,Zp,Zp,⟨q,Zs _,q,q⟩,Zp,Zp,Zp,Zp,Zp,Zt⟩⟩)
 rintro rv g ⟨h,hr,hst⟩
 subst e3
 dsimp only at h
 refine WL.cast 47 q hr (WL.weak hst (Rl 1 q (Zn (Rcl 7 q ?_))))
 refine OG 5 52 57 5 5 ?_
 refine Rlc 2 q (Ci h q (λh=>?_) λh=>?_)
 exact Rcl 2 q (sS Z6 s4 Z2 (Rlx 5 q (dO K q (.inl ⟨h,q,⟨Zp,Zp,Zp,Zp,⟨q,Zs _,q,q⟩,Zp,Zp,Zp,Zp,Zp,Zt⟩⟩))))
 refine Rcl 5 q ?_
 obtain⟨e4,e5,h⟩:=aB h
 refine WL.inl (us:=[.n 0, .pt 7 0]) (λrv st'=>(e4 ()=some r∧Le rv (.tu [])∧SLe st' [.row 4 [.d (D.b false)], .row 176 [.d (D.s c.1.name), .d (D.s c.1.fields)], .row 59 [.d (D.i .u8 x0.op), .n c21v178, .n c22v179, .n c23v180, .n c24v181, .n 0, .n c26v183], .row 183 [.pt 2 0], .lp f [.pt 0 0] .busy none, .row 176 [.d (D.s e.1.name), .d (D.s e.1.fields)], .row 187 [.fn (.func 147) [] [.pt 7 0], .fn (.func 148) [] [.pt 7 0], .n ((f130 x).1), .n ((f130 x).2)], .row 202 [.pt 2 5], .row 187 [.fn (.func 147) [] [.pt 7 0], .fn (.func 148) [] [.pt 7 0], .n 0, .n 0], .row 187 [.fn (.func 147) [] [.pt 7 0], .fn (.func 148) [] [.pt 7 0], .n ((f130 x).1), .n ((f130 x).2)]])) q q q q q ?_ (Zw q) q q ?_
 refine cI func148 λ_ _ _ _=>?_
 exact Rcl 4 q (sS Z6 s2 Z2 (Rlx 1 q (bo (ax (bX q) ⟨h,Zl,⟨Zp,Zp,Zp,Zp,⟨q,Zs _,q,q⟩,Zp,Zp,Zp,Zp,Zp,Zt⟩⟩))))
 rintro rv g ⟨h,hr,hst⟩
 subst e5
 dsimp only at h
 exact WL.cast 60 q hr (WL.weak hst (WL.nil (Rxx 1 q (ie K q (.inr (⟨h,q,⟨Zp,Zp,Zp,Zp,⟨q,Zs _,q,q⟩,Zp,Zp,Zp,Zp,Zp,Zt⟩⟩))))))
 rintro rv g (⟨h,rfl,hst⟩|⟨h,rfl,hst⟩)
 subst ey
 dsimp only at h
 exact WL.weak hst (Rl 1 q (Zn (cO q (Rcx 5 q (ax (bX q) (.inr (.inr (.inr (.inr (.inl ⟨c21v178,c22v179,c23v180,c24v181,c25v182,c26v183,e.1.name,e.1.fields,((f130 x).1),((f130 x).2),((f130 x).1),((f130 x).2),h,⟨Zp,Zp,Zp,Zp,⟨q,Zs _,q,q⟩,Zp,Zp,Zp,Zp,Zp,Zt⟩⟩))))))))))
 subst e1
 dsimp only at h
 exact WL.weak hst (Rl 1 q (Zn (bz q (Rcx 7 q (WE.drop 6 (env':=[(0, .yl 4),(1, .pt 3 0),(18, .l E9 A),(19, .n (List.length A:Int)),(20, .n (IntKind.i64.wrap (B+1)))]) Sb q q (Nat.le_trans (Nat.le_of_eq E) (nbT q)) (Fn7 h))))))
 refine Rcl 4 q ?_
 obtain⟨e6,e',h⟩:=aB h
 refine WL.inl (us:=[.pt 2 6]) (λrv st'=>(e6 ()=some r∧Le rv (.ag [.fn (.func 145) [] [.pt 7 0], .fn (.func 146) [] [.pt 7 0], .n 0, .n 0])∧SLe st' [.row 4 [.d (D.b false)], .row 176 [.d (D.s c.1.name), .d (D.s c.1.fields)], .row 59 [.d (D.i .u8 x0.op), .n c21v178, .n c22v179, .n c23v180, .n c24v181, .n c25v182, .n c26v183], .row 183 [.pt 2 0], .lp f [.pt 0 0] .ready none, .row 176 [.d (D.s e.1.name), .d (D.s e.1.fields)], .row 187 [.d (.v .nilFunc), .d (.v .nilFunc), .n 0, .n 0], .row 200 [.pt 2 6], .row 187 [.fn (.func 145) [] [.pt 7 0], .fn (.func 146) [] [.pt 7 0], .n 0, .n 0]])) q q q q q ?_ (Zw q) q q ?_
 refine cI func128 λ_ _ _ _=>?_
 exact Rcl 2 q (Bx q q q (Al fY q (Rll 6 q (Zq (ac rS fY q q) q (sS Z6 eJ Z2 (Rlx 3 q (ax (rs1 q (aZ q q sq eJ q)) ⟨h,Zl,⟨Zp,Zp,Zp,Zp,⟨q,Zs _,q,q⟩,Zp,Zp,Zp,Zp,Zt⟩⟩)))))))
 rintro rv g ⟨h,hr,hst⟩
 subst e'
 dsimp only at h
 refine WL.cast 29 q hr (WL.weak hst (sS Z6 eJ Z2 (WL.nil (Rxl 5 q ?_))))
 obtain⟨y,fc,h⟩:=ae h
 refine Zq (di underlying9 q q fc) q (wF Z4 (f130_c) Lw Z3 (Rl 4 q (sS Z6 s2 Z2 (Rl 1 q (sS Z6 s2 Z2 (Rll 6 q ?_))))))
 obtain⟨fd,fi,h⟩:=aB h
 obtain⟨fo,fr,h⟩:=aB h
 refine WL.yield (env0:=[(44, .ag [.fn (.func 145) [] [.pt 7 0], .fn (.func 146) [] [.pt 7 0], .n ((f130 y).1), .n ((f130 y).2)]),(2, .pt 0 0)]) (λrv st'=>(fd ()=some r∧rv= .d (.v (.bool false))∧SLe st' [.row 4 [.d (D.b false)], .row 176 [.d (D.s c.1.name), .d (D.s c.1.fields)], .row 59 [.d (D.i .u8 x0.op), .n c21v178, .n c22v179, .n c23v180, .n c24v181, .n c25v182, .n c26v183], .row 183 [.pt 2 0], .lp f [.pt 0 0] .done (some .ret), .row 176 [.d (D.s e.1.name), .d (D.s e.1.fields)], .row 187 [.fn (.func 145) [] [.pt 7 0], .fn (.func 146) [] [.pt 7 0], .n ((f130 y).1), .n ((f130 y).2)], .row 200 [.pt 2 6], .row 187 [.fn (.func 145) [] [.pt 7 0], .fn (.func 146) [] [.pt 7 0], .n 0, .n 0], .row 187 [.fn (.func 145) [] [.pt 7 0], .fn (.func 146) [] [.pt 7 0], .n ((f130 y).1), .n ((f130 y).2)]])∨(fo ()=some r∧rv= .d (.v (.bool true))∧SLe st' [.row 4 [.d (D.b false)], .row 176 [.d (D.s c.1.name), .d (D.s c.1.fields)], .row 59 [.d (D.i .u8 x0.op), .n c21v178, .n c22v179, .n c23v180, .n c24v181, .n c25v182, .n 0], .row 183 [.pt 2 0], .lp f [.pt 0 0] .ready none, .row 176 [.d (D.s e.1.name), .d (D.s e.1.fields)], .row 187 [.fn (.func 145) [] [.pt 7 0], .fn (.func 146) [] [.pt 7 0], .n ((f130 y).1), .n ((f130 y).2)], .row 200 [.pt 2 6], .row 187 [.fn (.func 145) [] [.pt 7 0], .fn (.func 146) [] [.pt 7 0], .n 0, .n 0], .row 187 [.fn (.func 145) [] [.pt 7 0], .fn (.func 146) [] [.pt 7 0], .n ((f130 y).1), .n ((f130 y).2)]])) C q q q q q q q (λee hn L g0=>?_) (Zw q) q q ?_
 obtain⟨em,eφ,ew,en,er⟩:=ee
 subst hn
 refine Rcl 1 q (Al fY q (sS Z6 eJ Z2 (Rlx 1 q (jE L q (Rcl 6 q ?_)))))
 obtain⟨fv,fz,h⟩:=aB h
 refine WL.inl (us:=[.pt 7 0]) (λrv st'=>(fv ()=some r∧Le rv (.n c26v183)∧SLe st' [.row 4 [.d (D.b false)], .row 176 [.d (D.s c.1.name), .d (D.s c.1.fields)], .row 59 [.d (D.i .u8 x0.op), .n c21v178, .n c22v179, .n c23v180, .n c24v181, .n c25v182, .n c26v183], .row 183 [.pt 2 0], .lp f [.pt 0 0] .busy none, .row 176 [.d (D.s e.1.name), .d (D.s e.1.fields)], .row 187 [.fn (.func 145) [] [.pt 7 0], .fn (.func 146) [] [.pt 7 0], .n ((f130 y).1), .n ((f130 y).2)], .row 200 [.pt 2 6], .row 187 [.fn (.func 145) [] [.pt 7 0], .fn (.func 146) [] [.pt 7 0], .n 0, .n 0], .row 187 [.fn (.func 145) [] [.pt 7 0], .fn (.func 146) [] [.pt 7 0], .n ((f130 y).1), .n ((f130 y).2)]])) q q q q q ?_ (Zw q) q q ?_
 refine cI func145 λ_ _ _ _=>?_
 exact Rcx 14 q (ax (rs1 q (aR q)) ⟨h,Zl,⟨Zp,Zp,Zp,Zp,⟨q,Zs _,q,q⟩,Zp,Zp,Zp,Zp,Zp,Zt⟩⟩)
 rintro rv g ⟨h,hr,hst⟩
 subst fz
 dsimp only at h
 refine WL.cast 47 q hr (WL.weak hst (Rl 1 q (Zn (Rcl 7 q ?_))))
 refine OG 5 52 57 5 5 ?_
 refine Rlc 2 q (Ci h q (λh=>?_) λh=>?_)
 exact Rcl 2 q (sS Z6 s4 Z2 (Rlx 5 q (dO L q (.inl ⟨h,q,⟨Zp,Zp,Zp,Zp,⟨q,Zs _,q,q⟩,Zp,Zp,Zp,Zp,Zp,Zt⟩⟩))))
 refine Rcl 5 q ?_
 obtain⟨f0,f1,h⟩:=aB h
 refine WL.inl (us:=[.n 0, .pt 7 0]) (λrv st'=>(f0 ()=some r∧Le rv (.tu [])∧SLe st' [.row 4 [.d (D.b false)], .row 176 [.d (D.s c.1.name), .d (D.s c.1.fields)], .row 59 [.d (D.i .u8 x0.op), .n c21v178, .n c22v179, .n c23v180, .n c24v181, .n c25v182, .n 0], .row 183 [.pt 2 0], .lp f [.pt 0 0] .busy none, .row 176 [.d (D.s e.1.name), .d (D.s e.1.fields)], .row 187 [.fn (.func 145) [] [.pt 7 0], .fn (.func 146) [] [.pt 7 0], .n ((f130 y).1), .n ((f130 y).2)], .row 200 [.pt 2 6], .row 187 [.fn (.func 145) [] [.pt 7 0], .fn (.func 146) [] [.pt 7 0], .n 0, .n 0], .row 187 [.fn (.func 145) [] [.pt 7 0], .fn (.func 146) [] [.pt 7 0], .n ((f130 y).1), .n ((f130 y).2)]])) q q q q q ?_ (Zw q) q q ?_
 refine cI func146 λ_ _ _ _=>?_
 exact Rcl 4 q (sS Z6 s3 Z2 (Rlx 1 q (bo (ax (bX q) ⟨h,Zl,⟨Zp,Zp,Zp,Zp,⟨q,Zs _,q,q⟩,Zp,Zp,Zp,Zp,Zp,Zt⟩⟩))))
 rintro rv g ⟨h,hr,hst⟩
 subst f1
 dsimp only at h
 exact WL.cast 60 q hr (WL.weak hst (WL.nil (Rxx 1 q (ie L q (.inr (⟨h,q,⟨Zp,Zp,Zp,Zp,⟨q,Zs _,q,q⟩,Zp,Zp,Zp,Zp,Zp,Zt⟩⟩))))))
 rintro rv g (⟨h,rfl,hst⟩|⟨h,rfl,hst⟩)
 subst fi
 dsimp only at h
 exact WL.weak hst (Rl 1 q (Zn (cO q (Rcx 5 q (ax (bX q) (.inr (.inr (.inr (.inr (.inr (.inl ⟨c21v178,c22v179,c23v180,c24v181,c25v182,c26v183,e.1.name,e.1.fields,((f130 y).1),((f130 y).2),((f130 y).1),((f130 y).2),h,⟨Zp,Zp,Zp,Zp,⟨q,Zs _,q,q⟩,Zp,Zp,Zp,Zp,Zp,Zt⟩⟩)))))))))))
 subst fr
 dsimp only at h
 exact WL.weak hst (Rl 1 q (Zn (bz q (Rcx 7 q (WE.drop 6 (env':=[(0, .yl 4),(1, .pt 3 0),(18, .l E9 A),(19, .n (List.length A:Int)),(20, .n (IntKind.i64.wrap (B+1)))]) Sb q q (Nat.le_trans (Nat.le_of_eq E) (nbT q)) (Fn7 h))))))
 exact Rcx 4 q (bo (ax (bX q) (.inr (.inr (.inr (.inr (.inr (.inr (⟨c21v178,c22v179,c23v180,c24v181,c25v182,c26v183,e.1.name,e.1.fields,h,⟨Zp,Zp,Zp,Zp,⟨q,Zs _,q,q⟩,Zp,Zt⟩⟩)))))))))
 rintro f rv g (⟨c21v81,c22v82,c23v83,c24v84,c25v85,c26v86,c50v87,c51v88,c62v89,c63v90,c92v91,c93v92,h,hst⟩|⟨c21v94,c22v95,c23v96,c24v97,c25v98,c26v99,c50v100,c51v101,c62v102,c63v103,c92v104,c93v105,h,hst⟩|⟨c21v107,c22v108,c23v109,c24v110,c25v111,c26v112,c50v113,c51v114,c62v115,c63v116,c92v117,c93v118,h,hst⟩|⟨c21v120,c22v121,c23v122,c24v123,c25v124,c26v125,c50v126,c51v127,c62v128,c63v129,c92v130,c93v131,h,hst⟩|⟨c21v133,c22v134,c23v135,c24v136,c25v137,c26v138,c50v139,c51v140,c62v141,c63v142,c92v143,c93v144,h,hst⟩|⟨c21v146,c22v147,c23v148,c24v149,c25v150,c26v151,c50v152,c51v153,c62v154,c63v155,c92v156,c93v157,h,hst⟩|⟨c21v159,c22v160,c23v161,c24v162,c25v163,c26v164,c50v165,c51v166,h,hst⟩)
 subst X
 dsimp only at h
 refine⟨_,_,_,_,_,hst,q,(by intro h;cases h),?_⟩
 refine Rxx 2 q ?_
 obtain rfl:=Oi h
 exact am (rs1 q (nf q q a4 q)) Zl
 subst Y
 dsimp only at h
 refine⟨_,_,_,_,_,hst,q,(by intro h;cases h),?_⟩
 refine Rxx 2 q ?_
 obtain rfl:=Oi h
 exact am (rs1 q (nf q q a4 q)) Zl
 subst Z
 dsimp only at h
 refine⟨_,_,_,_,_,hst,q,(by intro h;cases h),?_⟩
 refine Rxx 2 q ?_
 obtain rfl:=Oi h
 exact am (rs1 q (nf q q a4 q)) Zl
 subst a0
 dsimp only at h
 refine⟨_,_,_,_,_,hst,q,(by intro h;cases h),?_⟩
 refine Rxx 2 q ?_
 obtain rfl:=Oi h
 exact am (rs1 q (nf q q a4 q)) Zl
 subst a1
 dsimp only at h
 refine⟨_,_,_,_,_,hst,q,(by intro h;cases h),?_⟩
 refine Rxx 2 q ?_
 obtain rfl:=Oi h
 exact am (rs1 q (nf q q a4 q)) Zl
 subst a6
 dsimp only at h
 refine⟨_,_,_,_,_,hst,q,(by intro h;cases h),?_⟩
 refine Rxx 2 q ?_
 obtain rfl:=Oi h
 exact am (rs1 q (nf q q a4 q)) Zl
 subst a7
 dsimp only at h
 refine⟨_,_,_,_,_,hst,q,(by intro h;cases h),?_⟩
 exact Rxx 1 q (de ⟨_,_,_,_,_,_,_,_,h,Sb,Tv⟩)
 refine Rcl 5 q (Zq (ac p59 z59 q q) q (Zq (pE (xs:=[.int .u8 x0.op, .int .i64 c21v69, .int .i64 c22v70, .int .i64 c23v71, .int .i64 c24v72, .int .i64 c25v73, .int .i64 c26v74]) (ys:=[.int .u8 x0.op, .int .i64 0, .int .i64 0, .int .i64 0, .int .i64 0, .int .i64 0, .int .i64 0]) q59 q (ak (Zs _)) q (ak (Zs _)) q q q) q (sS Z6 s4 Z2 (Rlx 3 q ?_))))
 obtain rfl:=Oi h
 exact am (rs1 q (nf q q a4 q)) Zl

end Go.Proofs.YtkbpoeellidgeaaGreatDoor
