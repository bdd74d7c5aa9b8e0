/- The walks of a text. -/
import Derived.Test.YtkbpoeellidgeaaGreatDoorX
import Derived.Test.YtkbpoeellidgeaaGreatDoorWta
set_option linter.unusedVariables false
set_option linter.unusedSimpArgs false
set_option linter.unusedSectionVars false
set_option linter.unnecessarySimpa false
set_option maxHeartbeats 4000000
set_option maxRecDepth 100000
namespace Go.Proofs.YtkbpoeellidgeaaGreatDoor
open Go.Proofs.Tryz
open Go Go.Sk

theorem f82_c(y0:ao):Pu prog 82 [.ag (R59 y0)] (.b (f82 y0)):=by
 generalize h:f82 y0=r
 unfold f82 at h
 refine fI func82 λ_ _=>?_
 exact Rcl 2 q (Bd q q (Zs _) q (Rlx 12 q (FB h)))

theorem f83_c{t0:bP}{a:Int}{n2:Int}{r:Int×Bool}(h:f83 t0 a n2=some r):Pu prog 83 [.ag (bU t0), .i .i64 a, .i .i64 n2] (.tu [.i .i64 r.1, .b r.2]):=by
 unfold f83 at h
 refine fI func83 λ_ _=>?_
 refine Rcl 2 q (Bd q q (Zs _) q (Rll 10 q ?_))
 apply WL.or 7 (t:=11) (d:=18)
 exact q
 intro k
 exact Rl 4 q (Zy (ab E48 t0.text.tasks e29 q q Zl) q q q (Rl 2 q (WL.nil ⟨q,[_,_,_,_,_,_,_],q,q,q⟩)))
 exact Rn 7 7
 refine Rl 1 q ?_
 refine OG 3 19 22 3 3 ?_
 refine Rl 1 q ?_
 obtain⟨f,g,h⟩:=ae h
 refine Gg 11 23 34 f g (λh=>?_) (λh=>?_) ?_
 exact On 11 11 h
 refine Rl 5 q ?_
 obtain⟨j,c,h⟩:=ae h
 exact Zy (ah e29 q Zl q (af c) (an dK c) q) q q q (Rl 2 q (Zy (ab E74 j.entries e46 q q Zl) q q q (On 2 11 h)))
 refine Rlc 2 q (Ci h q (λh=>Rcx 8 q (FA h)) λh=>?_)
 exact Rcl 8 q (Ix h e29 dK q Zl q q λm _ h=>(Rl 3 q (Ix h e46 ib q Zl q q λe _ h=>(Rl 1 q (Al z74 q (sS Z6 s74 Z2 (Rll 6 q (Zq (ab E3 e.ins e51 q q Zl) q (Rl 2 q (Zq (ab E3 e.outs e51 q q Zl) q (Rlx 7 q (FA h))))))))))))

theorem f84_c{t0:bP}{p1:Int}{n2:Int}{r:Bool}(h:f84 t0 p1 n2=some r):Pu prog 84 [.ag (bU t0), .i .i64 p1, .i .i64 n2] (.b r):=by
 unfold f84 at h
 refine fI func84 λ_ _=>?_
 refine Rcl 2 q (Bd q q (Zs _) q (Rll 8 q ?_))
 apply WL.and 7 (t:=9) (d:=16)
 exact q
 intro g
 exact Rl 4 q (Zy (ab E87 t0.text.prots e30 q q Zl) q q q (Rl 2 q (WL.nil ⟨q,[_,_,_,_,_,_,_],q,q,q⟩)))
 exact Rn 7 7
 refine Rl 1 q ?_
 refine AG 3 17 20 3 3 ?_
 refine Rl 1 q ?_
 obtain⟨c,e,h⟩:=ae h
 refine Gg 11 21 32 c e (λh=>?_) (λh=>?_) ?_
 refine Rl 5 q ?_
 obtain⟨f,a,h⟩:=ae h
 exact Zy (ah e30 q Zl q (af a) (an nG a) q) q q q (Rl 2 q (Zy (ab E92 f.barriers e85 q q Zl) q q q (On 2 11 h)))
 exact On 11 11 h
 exact Rlx 4 q (FA h)

theorem f54_c{t0:bP}{x1:ao}{r:Bool}(h:f54 t0 x1=some r):Pu prog 54 [.ag (bU t0), .ag (R59 x1)] (.b r):=by
 unfold f54 at h
 refine fI func54 λ_ _=>?_
 refine Rcl 2 q (Bd q q (Zs _) q (Bd q q (Zs _) q (Rll 7 q ?_)))
 obtain⟨M,j,h⟩:=ae h
 refine wF Z4 (f81_c j) Lw Z3 (Rlc 3 q (Ci h q (λh=>?_) λh=>?_))
 exact Rcx 7 q (FA h)
 refine Rcc 10 q (Jn1 (λa=> [(2, .d (.pc (bU t0))),(3, .d (.pc (R59 x1))),(14, .d (D.i .u8 x1.op)),(15, .d (D.b a))]) (λ_=> []) h (λ_ h=>?_) λa h=>?_)
 exact Rcc 6 q (Ci h q (λh=>Rcx 1 q (En1 h)) λh=>Rcx 4 q (En1 h))
 refine Ci h q (λh=>?_) (λh=>?_)
 refine Rcl 7 q ?_
 obtain⟨N,k,h⟩:=ae h
 exact wF Z4 (f68_c k) Lw Z3 (Rlx 6 q (FA h))
 refine Jn1 (λc=> [(2, .d (.pc (bU t0))),(3, .d (.pc (R59 x1))),(14, .d (D.i .u8 x1.op)),(24, .d (D.b c))]) (λ_=> []) h (λ_ h=>?_) (λc h=>?_)
 exact Rcc 6 q (Ci h q (λh=>Rcx 1 q (En1 h)) λh=>Rcx 4 q (En1 h))
 refine Ci h q (λh=>?_) (λh=>?_)
 refine Rcl 9 q ?_
 obtain⟨O,p,h⟩:=ae h
 exact wF Z4 (f68_c p) Lw Z3 (Rlx 6 q (FA h))
 refine Jn1 (λe=> [(2, .d (.pc (bU t0))),(3, .d (.pc (R59 x1))),(14, .d (D.i .u8 x1.op)),(35, .d (D.b e))]) (λ_=> []) h (λ_ h=>?_) (λe h=>?_)
 refine Rcc 6 q (Ci h q (λh=>Rcx 1 q (En1 h)) λh=>?_)
 exact Rcc 6 q (Ci h q (λh=>Rcx 1 q (En1 h)) λh=>Rcx 4 q (En1 h))
 refine Ci h q (λh=>?_) (λh=>?_)
 exact Rcl 5 q (wF Z4 (f69_c) Lw Z3 (Rlx 6 q (FA h)))
 refine Rcc 6 q (Ci h q (λh=>?_) λh=>?_)
 refine Rcl 16 q (Zq (ab E59 t0.text.insns e22 q q Zl) q (Rl 2 q ?_))
 obtain⟨w,x,h⟩:=ae h
 refine Gg 10 56 66 w x (λh=>?_) (λh=>?_) ?_
 refine Rl 6 q ?_
 replace h:=aD h
 obtain⟨y,h⟩:=h
 refine Zy (gF E59 t0.text.insns (l:=x1.to) (h:=(IntKind.i64.wrap (x1.to+x1.m))) e22 q Zl ⟨_,q⟩ ⟨_,q⟩ y λ_=>q) q q q ?_
 obtain⟨P,A,h⟩:=ae h
 exact WL.fn q q q q (f52_c _ _ 82 [] [] (λz0 _ h=>by obtain rfl:=inS h;exact f82_c z0) A) ⟨Zl,(Le.fnc Zt Zt),Zt⟩ (aG q q q) q q (On 2 10 h)
 exact On 10 10 h
 exact Rlx 6 q (FA h)
 refine Rcc 6 q (Ci h q (λh=>Rcx 14 q (FA h)) λh=>?_)
 refine Jn1 (λf=> [(2, .d (.pc (bU t0))),(3, .d (.pc (R59 x1))),(14, .d (D.i .u8 x1.op)),(75, .d (D.b f))]) (λ_=> []) h (λ_ h=>?_) (λf h=>?_)
 refine Rcc 6 q (Ci h q (λh=>Rcx 1 q (En1 h)) λh=>?_)
 refine Rcc 6 q (Ci h q (λh=>Rcx 1 q (En1 h)) λh=>?_)
 exact Rcc 6 q (Ci h q (λh=>Rcx 1 q (En1 h)) λh=>Rcx 4 q (En1 h))
 refine Ci h q (λh=>?_) (λh=>?_)
 exact Rcl 7 q (Zq (ab E51 t0.text.lists e26 q q Zl) q (Rlx 7 q (FA h)))
 refine Rcc 6 q (Ci h q (λh=>Rcl 7 q (Zq (ab E98 t0.text.selects e25 q q Zl) q (Rlx 7 q (FA h)))) λh=>?_)
 refine Rcc 6 q (Ci h q (λh=>?_) λh=>?_)
 refine Rcl 7 q ?_
 obtain⟨Q,B,h⟩:=ae h
 refine wF Z4 (f83_c B) Lw Z3 (Rll 11 q ?_)
 obtain⟨C,E,h⟩:=ae h
 refine Gg 6 108 114 C E (λh=>?_) (λh=>?_) ?_
 refine Rl 4 q ?_
 obtain⟨R,F,h⟩:=ae h
 exact WL.fn q q q q (f68_c F) Lw (aG q q q) q q (On 1 6 h)
 exact On 6 6 h
 exact Rlx 6 q (FA h)
 refine Rcc 6 q (Ci h q (λh=>?_) λh=>?_)
 refine Rcl 7 q ?_
 obtain⟨S,G,h⟩:=ae h
 refine wF Z4 (f83_c G) Lw Z3 (Rll 11 q ?_)
 apply WL.and 8 (t:=127) (d:=135)
 exact q
 intro T
 exact Rl 5 q (Zy (ab E59 t0.text.insns e22 q q Zl) q q q (Rl 2 q (WL.nil ⟨q,[_,_,_,_,_,_,_,_],q,q,q⟩)))
 exact Rn 8 8
 exact Rlx 6 q (FA h)
 refine Jn1 (λg=> [(2, .d (.pc (bU t0))),(3, .d (.pc (R59 x1))),(14, .d (D.i .u8 x1.op)),(136, .d (D.b g))]) (λ_=> []) h (λ_ h=>?_) (λg h=>?_)
 exact Rcc 6 q (Ci h q (λh=>Rcx 1 q (En1 h)) λh=>Rcx 4 q (En1 h))
 refine Ci h q (λh=>?_) (λh=>?_)
 exact Rcl 7 q (Zq (ab E87 t0.text.prots e30 q q Zl) q (Rlx 7 q (FA h)))
 refine Rcc 6 q (Ci h q (λh=>?_) λh=>?_)
 refine Rcl 7 q ?_
 obtain⟨U,H,h⟩:=ae h
 exact wF Z4 (f84_c H) Lw Z3 (Rlx 6 q (FA h))
 refine Rcc 6 q (Ci h q (λh=>?_) λh=>?_)
 refine Rcl 6 q ?_
 obtain⟨I,K,h⟩:=ae h
 refine Gg 7 159 166 I K (λh=>?_) (λh=>?_) ?_
 exact On 7 7 h
 refine Rl 5 q ?_
 obtain⟨V,L,h⟩:=ae h
 exact WL.fn q q q q (f84_c L) Lw (aG q q q) q q (On 1 7 h)
 exact Rlx 6 q (FA h)
 exact Rcx 9 q (FA h)

theorem f22_c{t0:al}{r:Bool}(h:f22 t0=some r):Pu prog 22 [.ag (R33 t0)] (.b r):=by
 unfold f22 at h
 refine fI func22 λ_ _=>?_
 refine Rcl 2 q (Bd q q (Zs _) q (Rll 6 q (Zq (ac p115 z115 q q) q (Al z115 q (sS Z6 s115 Z2 (St q (Rll 7 q (Zq (ab E59 t0.insns e22 q q Zl) q (Rl 2 q ?_)))))))))
 apply WL.or 5 (t:=12) (d:=17)
 exact q
 intro P
 exact Rl 2 q (Zy (ab E59 t0.insns e22 q q Zl) q q q (Rl 2 q (WL.nil ⟨q,[_,_,_,_,_],q,q,q⟩)))
 exact Rn 5 5
 refine Rlc 2 q (Ci h q (λh=>Rcx 7 q (FA h)) λh=>?_)
 refine Rcl 9 q (Zq (ab E59 t0.insns e22 q q Zl) q (Rl 1 q (Ix h e22 c9 q Zl q q λQ _ h=>(Rlc 5 q (Jn1 (λj=> [(1, .d (.pc (R33 t0))),(3, .pt 0 0),(27, .d (D.b j))]) (λ_=> [.row 115 (txA t0)]) h (λ_ h=>?_) λj h=>?_)))))
 refine Rcc 6 q (Ci h q (λh=>Rcx 1 q (En1 h)) λh=>?_)
 refine Rcc 6 q (Ci h q (λh=>Rcx 1 q (En1 h)) λh=>?_)
 exact Rcc 6 q (Ci h q (λh=>Rcx 1 q (En1 h)) λh=>Rcx 4 q (En1 h))
 refine Ci h q (λh=>?_) (λh=>?_)
 refine Rcc 3 q ?_
 refine Jn0 [(1, .d (.pc (R33 t0))),(3, .pt 0 0)] [.row 115 (txA t0), .os 35 1 0 [[.fn (.func 44) [.ag (txA t0)] []],[.fn (.func 45) [.ag (txA t0)] []],[.fn (.func 46) [.ag (txA t0)] []],[.fn (.func 47) [.ag (txA t0)] []],[.fn (.func 48) [.ag (txA t0)] []],[.fn (.func 49) [.ag (txA t0)] []],[.fn (.func 50) [.ag (txA t0)] []],[.fn (.func 51) [.ag (txA t0)] []]]] h (λ_ h=>?_) (λh=>?_)
 refine Rcl 18 q (WL.s ((NewOs.b (ad l116 z35 q dC dC q q q dC)).does) (Zw q) q q (Zq (nR nA q q q) q (Rlc 4 q (rC 9 (Rcc 6 q (cO q (Rcl 6 q (Zq (bR nA q q q dC (by show(0:Int)<((8:Nat):Int);decide)) q (Zq (cW q q a35 q) q (Rll 6 q ?_))))))))))
 obtain⟨R,p,h⟩:=ae h
 refine wF Z4 (f44_c p) ⟨(ak (Zs _)),Zt⟩ Z3 (Rlc 3 q (Ci h q (λh=>?_) λh=>?_))
 exact Rcx 8 q (dN (Rxx 2 q (FA h)))
 refine Rcl 4 q (Zq (je (c:=1) q q dC) q (Rlx 2 q (jZ (WC.sub (env':=[(1, .d (.pc (R33 t0))),(3, .pt 0 0),(48, .os 1 0),(49, .n 8),(50, .n 1)]) Sb (Rcc 6 q (cO q (Rcl 6 q (Zq (bR nA q q q dC (by show(1:Int)<((8:Nat):Int);decide)) q (Zq (cW q q a35 q) q (Rll 6 q ?_))))))))))
 obtain⟨S,w,h⟩:=ae h
 refine wF Z4 (f45_c w) ⟨(ak (Zs _)),Zt⟩ Z3 (Rlc 3 q (Ci h q (λh=>?_) λh=>?_))
 exact Rcx 8 q (dN (Rxx 2 q (FA h)))
 refine Rcl 4 q (Zq (je (c:=2) q q dC) q (Rlx 2 q (jZ (WC.sub (env':=[(1, .d (.pc (R33 t0))),(3, .pt 0 0),(48, .os 1 0),(49, .n 8),(50, .n 2)]) Sb (Rcc 6 q (cO q (Rcl 6 q (Zq (bR nA q q q dC (by show(2:Int)<((8:Nat):Int);decide)) q (Zq (cW q q a35 q) q (Rll 6 q ?_))))))))))
 obtain⟨T,x,h⟩:=ae h
 refine wF Z4 (f46_c x) ⟨(ak (Zs _)),Zt⟩ Z3 (Rlc 3 q (Ci h q (λh=>?_) λh=>?_))
 exact Rcx 8 q (dN (Rxx 2 q (FA h)))
 refine Rcl 4 q (Zq (je (c:=3) q q dC) q (Rlx 2 q (jZ (WC.sub (env':=[(1, .d (.pc (R33 t0))),(3, .pt 0 0),(48, .os 1 0),(49, .n 8),(50, .n 3)]) Sb (Rcc 6 q (cO q (Rcl 6 q (Zq (bR nA q q q dC (by show(3:Int)<((8:Nat):Int);decide)) q (Zq (cW q q a35 q) q (Rll 6 q ?_))))))))))
 obtain⟨U,y,h⟩:=ae h
 refine wF Z4 (f47_c y) ⟨(ak (Zs _)),Zt⟩ Z3 (Rlc 3 q (Ci h q (λh=>?_) λh=>?_))
 exact Rcx 8 q (dN (Rxx 2 q (FA h)))
 refine Rcl 4 q (Zq (je (c:=4) q q dC) q (Rlx 2 q (jZ (WC.sub (env':=[(1, .d (.pc (R33 t0))),(3, .pt 0 0),(48, .os 1 0),(49, .n 8),(50, .n 4)]) Sb (Rcc 6 q (cO q (Rcl 6 q (Zq (bR nA q q q dC (by show(4:Int)<((8:Nat):Int);decide)) q (Zq (cW q q a35 q) q (Rll 6 q ?_))))))))))
 obtain⟨V,A,h⟩:=ae h
 refine wF Z4 (f48_c A) ⟨(ak (Zs _)),Zt⟩ Z3 (Rlc 3 q (Ci h q (λh=>?_) λh=>?_))
 exact Rcx 8 q (dN (Rxx 2 q (FA h)))
 refine Rcl 4 q (Zq (je (c:=5) q q dC) q (Rlx 2 q (jZ (WC.sub (env':=[(1, .d (.pc (R33 t0))),(3, .pt 0 0),(48, .os 1 0),(49, .n 8),(50, .n 5)]) Sb (Rcc 6 q (cO q (Rcl 6 q (Zq (bR nA q q q dC (by show(5:Int)<((8:Nat):Int);decide)) q (Zq (cW q q a35 q) q (Rll 6 q ?_))))))))))
 obtain⟨X,B,h⟩:=ae h
 refine wF Z4 (f49_c B) ⟨(ak (Zs _)),Zt⟩ Z3 (Rlc 3 q (Ci h q (λh=>?_) λh=>?_))
 exact Rcx 8 q (dN (Rxx 2 q (FA h)))
 refine Rcl 4 q (Zq (je (c:=6) q q dC) q (Rlx 2 q (jZ (WC.sub (env':=[(1, .d (.pc (R33 t0))),(3, .pt 0 0),(48, .os 1 0),(49, .n 8),(50, .n 6)]) Sb (Rcc 6 q (cO q (Rcl 6 q (Zq (bR nA q q q dC (by show(6:Int)<((8:Nat):Int);decide)) q (Zq (cW q q a35 q) q (Rll 6 q ?_))))))))))
 obtain⟨Y,C,h⟩:=ae h
 refine wF Z4 (f50_c C) ⟨(ak (Zs _)),Zt⟩ Z3 (Rlc 3 q (Ci h q (λh=>?_) λh=>?_))
 exact Rcx 8 q (dN (Rxx 2 q (FA h)))
 refine Rcl 4 q (Zq (je (c:=7) q q dC) q (Rlx 2 q (jZ (WC.sub (env':=[(1, .d (.pc (R33 t0))),(3, .pt 0 0),(48, .os 1 0),(49, .n 8),(50, .n 7)]) Sb (Rcc 6 q (cO q (Rcl 6 q (Zq (bR nA q q q dC (by show(7:Int)<((8:Nat):Int);decide)) q (Zq (cW q q a35 q) q (Rll 6 q ?_))))))))))
 obtain⟨Z,E,h⟩:=ae h
 refine wF Z4 (f51_c E) ⟨(ak (Zs _)),Zt⟩ Z3 (Rlc 3 q (Ci h q (λh=>?_) λh=>?_))
 exact Rcx 8 q (dN (Rxx 2 q (FA h)))
 exact Rcl 4 q (Zq (je (c:=8) q q dC) q (Rlx 2 q (jZ (WC.sub (env':=[(1, .d (.pc (R33 t0))),(3, .pt 0 0),(48, .os 1 0),(49, .n 8),(50, .n 8)]) Sb (Rcc 6 q (bz q (Rcx 2 q (pI (Rxx 1 q (En0 h))))))))))
 refine Rcl 5 q ?_
 obtain⟨F,G,h⟩:=aB h
 refine WL.inl (us:=[.l E59 t0.insns, .fn (.func 53) [] [.pt 0 0]]) (λrv st'=>(∃(e:Bool),F e=some r∧Le rv (.d (D.b e))∧SLe st' [.row 115 (txA t0), .os 35 1 0 [[.fn (.func 44) [.ag (txA t0)] []],[.fn (.func 45) [.ag (txA t0)] []],[.fn (.func 46) [.ag (txA t0)] []],[.fn (.func 47) [.ag (txA t0)] []],[.fn (.func 48) [.ag (txA t0)] []],[.fn (.func 49) [.ag (txA t0)] []],[.fn (.func 50) [.ag (txA t0)] []],[.fn (.func 51) [.ag (txA t0)] []]]])) q q q q q ?_ (Zw q) q q ?_
 refine cI func52 λ_ _ _ a0=>?_
 refine Rcl 9 q ?_
 obtain⟨k,H,h⟩:=aB h
 refine WL.inl (us:=[.l E59 t0.insns, .fn (.func 53) [] [.pt 0 0]]) (λrv st'=>(∃(a:Int),k a=some r∧Le rv (.n a)∧SLe st' [.row 115 (txA t0), .os 35 1 0 [[.fn (.func 44) [.ag (txA t0)] []],[.fn (.func 45) [.ag (txA t0)] []],[.fn (.func 46) [.ag (txA t0)] []],[.fn (.func 47) [.ag (txA t0)] []],[.fn (.func 48) [.ag (txA t0)] []],[.fn (.func 49) [.ag (txA t0)] []],[.fn (.func 50) [.ag (txA t0)] []],[.fn (.func 51) [.ag (txA t0)] []]]])) q q q q q ?_ (Zw q) q q ?_
 refine cI func80 λ_ _ _ a1=>?_
 refine Rcc 5 q ?_
 refine Jn0 [] [.row 115 (txA t0), .os 35 1 0 [[.fn (.func 44) [.ag (txA t0)] []],[.fn (.func 45) [.ag (txA t0)] []],[.fn (.func 46) [.ag (txA t0)] []],[.fn (.func 47) [.ag (txA t0)] []],[.fn (.func 48) [.ag (txA t0)] []],[.fn (.func 49) [.ag (txA t0)] []],[.fn (.func 50) [.ag (txA t0)] []],[.fn (.func 51) [.ag (txA t0)] []]]] h (λI h=>?_) (λh=>?_)
 refine Rcl 3 q (Zq (ab E59 t0.insns e22 q q Zl) q (Rlc 4 q ?_))
 refine Ln1 (λf=> [(0, .l E59 t0.insns),(1, .fn (.func 53) [] [.pt 0 0]),(7, .n (List.length t0.insns:Int)),(8, .n f)]) (λ_=> [.row 115 (txA t0), .os 35 1 0 [[.fn (.func 44) [.ag (txA t0)] []],[.fn (.func 45) [.ag (txA t0)] []],[.fn (.func 46) [.ag (txA t0)] []],[.fn (.func 47) [.ag (txA t0)] []],[.fn (.func 48) [.ag (txA t0)] []],[.fn (.func 49) [.ag (txA t0)] []],[.fn (.func 50) [.ag (txA t0)] []],[.fn (.func 51) [.ag (txA t0)] []]]]) (f22_l1 t0 k I) h (λ_ h=>by rw[f22_l1] at h;cases h) (λn f h=>?_)
 rw[f22_l1] at h
 refine Rcc 6 q (Ci h q (λh=>?_) λh=>?_)
 refine Rcl 15 q (Ix h e22 c9 q Zl q q λK _ h=>(Rl 1 q ?_))
 obtain⟨L,M,h⟩:=aB h
 refine WL.inl (us:=[.d (.ag (R59 K)), .pt 0 0]) (λrv st'=>(∃(g:Bool),L g=some r∧Le rv (.d (D.b g))∧SLe st' [.row 115 (txA t0), .os 35 1 0 [[.fn (.func 44) [.ag (txA t0)] []],[.fn (.func 45) [.ag (txA t0)] []],[.fn (.func 46) [.ag (txA t0)] []],[.fn (.func 47) [.ag (txA t0)] []],[.fn (.func 48) [.ag (txA t0)] []],[.fn (.func 49) [.ag (txA t0)] []],[.fn (.func 50) [.ag (txA t0)] []],[.fn (.func 51) [.ag (txA t0)] []]]])) q q q q q ?_ (Zw q) q q ?_
 refine cI func53 λ_ _ _ _=>?_
 refine Rcl 2 q (Bd q q (Zs _) q (Rll 7 q ?_))
 obtain⟨N,O,h⟩:=ae h
 exact wF Z4 (f54_c O) ⟨(ak (Zs _)),Zl,Zt⟩ Z3 (Rlx 5 q (ax (rs1 q (aR q)) ⟨(!N),h,Zl,⟨Zp,Zf,Zt⟩⟩))
 rintro rv m ⟨g,h,hr,hst⟩
 subst M
 dsimp only at h
 refine WL.cast 16 q hr (WL.weak hst (Zn (Ci h q (λh=>?_) λh=>?_)))
 exact Rcx 12 q (ax (rs1 q (aR q)) ⟨f,h,Zl,⟨Zp,Zf,Zt⟩⟩)
 exact Rcx 7 q (Fn1 h)
 exact Rcx 4 q (En0 h)
 exact Rcx 6 q (ax (rs1 q (aR q)) ⟨(-1),h,Zl,⟨Zp,Zf,Zt⟩⟩)
 rintro rv m ⟨a,h,hr,hst⟩
 subst H
 dsimp only at h
 exact WL.cast 7 q hr (WL.weak hst (Rl 2 q (Zn (Rcx 1 q (ax (rs1 q (aR q)) ⟨(decide (a≥0)),h,Zl,⟨Zp,Zf,Zt⟩⟩)))))
 rintro rv m ⟨e,h,hr,hst⟩
 subst G
 dsimp only at h
 exact WL.cast 61 q hr (WL.weak hst (Rl 2 q (Zn (Rcx 1 q (FA h)))))
 exact Rcx 8 q (FA h)

theorem f23_c{t0:al}{r:lL}(h:f23 t0=some r):Pu prog 23 [.ag (R33 t0)] (.sl (List.map E71 r)):=by
 unfold f23 at h
 refine fI func23 λ_ _=>?_
 refine Rcl 2 q (Bd q q (Zs _) q (Rll 7 q ?_))
 obtain⟨bk,a1,h⟩:=ae h
 refine wF Z4 (f22_c a1) Lw Z3 (Rlc 3 q (Ci h q (λh=>?_) λh=>?_))
 exact Rcx 7 q (FA h)
 refine Rcl 6 q (Zq (ab E53 t0.objs e27 q q Zl) q ?_)
 replace h:=aD h
 obtain⟨a6,h⟩:=h
 refine WL.s ((NewOs.b (fB l69 z71 q (Nat.succ_pos _) q q a6)).does) (Zw q) q q (mQ (qf E2 0 2 1 q) (Rlc 3 q ?_))
 replace h:=aB h
 obtain⟨V,a7,h⟩:=h
 refine cT (λenv' st'=>∃(C:lL),∃(S:Nat),V C=some r∧Sub [(1, .d (.pc (R33 t0))),(3, .os 0 0)] env'∧SLe st' [.os 71 1 0 (aX 1 S (List.length C)), .fam 2 1 S (bf E2 C)]) ?_ ?_
 refine Rcl 4 q (Zq (ab E53 t0.objs e27 q q Zl) q (Rlc 4 q (cL (λn env' st'=>∃(c:Int),∃(f:lL),∃(t:Nat),f23_l1 t0 V n c f=some r∧Sub [(1, .d (.pc (R33 t0))),(3, .os 0 0),(17, .l E53 t0.objs),(18, .n (List.length t0.objs:Int)),(19, .n c)] env'∧SLe st' [.os 71 1 0 (aX 1 t (List.length f)), .fam 2 1 t (bf E2 f)]) (λn=>n) (Int.toNat ((List.length t0.objs:Int) - 0)+1) ⟨0,(List.replicate (Int.toNat (List.length t0.objs:Int)) ([]:lI)),_,h,(Sx q (Sx q (Sx q (Sx q (Sx q (Sub.nil _)))))),⟨Zf,Zf,Zt⟩⟩ ?_)))
 rintro n F G ⟨c,f,t,h,hsub,hst⟩
 rcases n with _|n
 rw[f23_l1] at h;cases h
 rw[f23_l1] at h
 refine WC.sub hsub (WC.weak hst ?_)
 refine Rcc 6 q (Ci h q (λh=>?_) λh=>?_)
 refine Rcc 2 q ?_
 replace h:=aB h
 obtain⟨X,a8,h⟩:=h
 refine cT (λenv' st'=>∃(M:lL),∃(T:Nat),X M=some r∧Sub [(1, .d (.pc (R33 t0))),(3, .os 0 0),(17, .l E53 t0.objs),(18, .n (List.length t0.objs:Int)),(19, .n c)] env'∧SLe st' [.os 71 1 0 (aX 1 T (List.length M)), .fam 2 1 T (bf E2 M)]) ?_ ?_
 refine Rcl 4 q (Ix h e27 cA q Zl q q λa _ h=>(Rl 1 q (Al z53 q (Rl 1 q (sS Z6 s53 Z2 (Rll 8 q ?_))))))
 replace h:=aD h
 obtain⟨a',h⟩:=h
 refine WL.s ((NewOs.b (NewOs.cast (fB l71 z2 q (Nat.succ_pos _) q q a') (by exact eY (R:=E2) (z:=(0:Int)) q))).does) (Zw q) q q ?_
 obtain⟨bl,N,h⟩:=ae h
 refine Zq (eT e69 q q q (af N) (eF N)) q (WL.s0 (o5 (i:=c) (n:=List.length f) q q q q s71 (cZ N)) (Zw q) q (mQ (iX (L:=f) (_x:=[]) (x':=(List.replicate (Int.toNat a.size) (0:Int))) (j:=Int.toNat c) 0 1 3 (List.set f (Int.toNat c) (List.replicate (Int.toNat a.size) (0:Int))) q q q q q (cZ N) q) (Rll 5 q ?_)))
 obtain⟨bs,bb,h⟩:=ae h
 refine wF Z4 (f55_c bb) ⟨(ak (Zs _)),Zl,Zt⟩ Z3 (Rlc 3 q (Ci h q (λh=>?_) λh=>?_))
 refine Rcl 4 q ?_
 obtain⟨p,B,h⟩:=ae h
 refine Zq (eT e69 q q q (af B) (eF B)) q (mQ (gW (L:=(List.set f (Int.toNat c) (List.replicate (Int.toNat a.size) (0:Int)))) (x:=p) (i:=c) 0 1 q q q B) (Zq (iK (i:=c) q q a71 (cZ B)) q (Zq (gI (a9 E2) p e71 q q q) q (Rlx 2 q (rt (gX (L0:=(List.set f (Int.toNat c) (List.replicate (Int.toNat a.size) (0:Int)))) (x':=p) 0 1 4 q q q q q (cZ B)) ?_)))))
 refine wB (st':=[.os 71 1 0 (aX 1 (((t+1)+1)+1) (List.length (List.set f (Int.toNat c) (List.replicate (Int.toNat a.size) (0:Int))))), .fam 2 1 (((t+1)+1)+1) (bf E2 (List.set f (Int.toNat c) (List.replicate (Int.toNat a.size) (0:Int)))), .row 53 [.n a.size, .n a.lo, .n a.hi, .d (D.b a.ptr), .l E3 a.set_], .z, .z]) (by show([.os 71 1 0 (aX 1 (((t+1)+1)+1) (List.length (List.set (List.set f (Int.toNat c) (List.replicate (Int.toNat a.size) (0:Int))) (Int.toNat c) p))), .fam 2 1 (((t+1)+1)+1) (bf E2 (List.set (List.set f (Int.toNat c) (List.replicate (Int.toNat a.size) (0:Int))) (Int.toNat c) p)), .row 53 [.n a.size, .n a.lo, .n a.hi, .d (D.b a.ptr), .l E3 a.set_], .z, .z]:lW)=_;rw[m8 B]) (Rxc 2 q ?_)
 refine cL (λna env' st'=>∃(w:Int),∃(g:lL),∃(y:Nat),f23_l2 c X a p na w g=some r∧Sub [(1, .d (.pc (R33 t0))),(3, .os 0 0),(4, .n c),(5, .pt 2 0),(17, .l E53 t0.objs),(18, .n (List.length t0.objs:Int)),(19, .n c),(37, .n (List.length p:Int)),(38, .n w)] env'∧SLe st' [.os 71 1 0 (aX 1 y (List.length g)), .fam 2 1 y (bf E2 g), .row 53 [.n a.size, .n a.lo, .n a.hi, .d (D.b a.ptr), .l E3 a.set_], .z, .z]) (λn=>n) (Int.toNat ((List.length p:Int) - 0)+1) ⟨0,(List.set f (Int.toNat c) (List.replicate (Int.toNat a.size) (0:Int))),_,h,(Sx q (Sx q (Sx q (Sx q (Sx q (Sx q (Sx q (Sx q (Sx q (Sub.nil _)))))))))),⟨Zf,Zf,Zp,Zt,Zt,Zt⟩⟩ ?_
 rintro na F G ⟨w,g,y,h,hsub,hst⟩
 rcases na with _|na
 rw[f23_l2] at h;cases h
 rw[f23_l2] at h
 refine WC.sub hsub (WC.weak hst ?_)
 refine Rcc 6 q (Ci h q (λh=>?_) λh=>?_)
 refine Rcc 10 q ?_
 obtain⟨O,H,h⟩:=ae h
 obtain⟨b0,Y,h⟩:=ae h
 apply RT [_,_,_,_,_,_,_,_, .u] [3,8] [[.os 71 1 0 (List.set (aX 1 (y+1) (List.length g)) (Int.toNat c) [.os 5 0]), .fam 2 1 (y+1) (bf E2 (List.set g (Int.toNat c) [])), .row 53 [.n a.size, .n a.lo, .n a.hi, .d (D.b a.ptr), .l E3 a.set_], .z, .z, .os 2 1 0 (eM E2 O)],[.os 71 1 0 (List.set (aX 1 (y+1) (List.length g)) (Int.toNat c) [.os 5 0]), .fam 2 1 (y+1) (bf E2 (List.set g (Int.toNat c) [])), .row 53 [.n a.size, .n a.lo, .n a.hi, .d (D.b a.ptr), .l E3 a.set_], .z, .z, .os 2 1 0 (eM E2 (List.set O (Int.toNat w) a.lo))]] [p01 3,p01 4,p20 0 1,p10 2,u01 6,u01 5,u10 5,q20 3 4 1,q20 7 6 1] kR kR q q
 refine Y2 ?_
 refine zo (λ_=>Zq (eT e69 q q q (af H) (eF H)) q (Zd q q q)) ?_
 refine zo (λ_=>mQ (gW (L:=g) (x:=O) (i:=c) 0 1 q q q H) (Zq (iK (i:=c) q q a71 (cZ H)) q (Zd q q q))) ?_
 refine X2c ?_
 refine zo (λ_=>Zq (lU e71 q q q Y) q (Zd q q q)) ?_
 exact zo (λ_=>WL.s0 (dp (R:=E2) (k:=1) (i:=w) (fo:=0) a.lo q q q q Zl q q q s2 q (λ_=>q) Y q q) (Zw q) q (aJ q q)) Zt
 exact rt (gX (L0:=g) (x':=(List.set O (Int.toNat w) a.lo)) 0 1 5 q q q q q (cZ H)) (Rxx 6 q (WE.drop 5 (env':=[(1, .d (.pc (R33 t0))),(3, .os 0 0),(4, .n c),(5, .pt 2 0),(17, .l E53 t0.objs),(18, .n (List.length t0.objs:Int)),(19, .n c),(37, .n (List.length p:Int)),(38, .n (IntKind.i64.wrap (w+1)))]) Sb q Kv (Nat.zero_le _) (Fn3 h)))
 exact Rcx 5 q (WE.drop 2 (env':=[(1, .d (.pc (R33 t0))),(3, .os 0 0),(17, .l E53 t0.objs),(18, .n (List.length t0.objs:Int)),(19, .n c)]) Sb q Kv (Nat.zero_le _) (En2 h))
 exact Rcx 2 q (WE.drop 2 (env':=[(1, .d (.pc (R33 t0))),(3, .os 0 0),(17, .l E53 t0.objs),(18, .n (List.length t0.objs:Int)),(19, .n c)]) Sb q Kv (Nat.zero_le _) (En2 h))
 rintro F G ⟨M,T,h,hsub,hst⟩
 subst a8
 dsimp only at h
 refine WC.sub hsub (WC.weak hst ?_)
 exact Rcx 4 q (Fn3 h)
 exact Rcx 4 q (En2 h)
 rintro F G ⟨C,S,h,hsub,hst⟩
 subst a7
 dsimp only at h
 refine WC.sub hsub (WC.weak hst ?_)
 replace h:=aB h
 obtain⟨Z,bd,h⟩:=h
 refine cT (λenv' st'=>∃(I:lL),∃(U:Nat),Z I=some r∧Sub [(3, .os 0 0)] env'∧SLe st' [.os 71 1 0 (aX 1 U (List.length I)), .fam 2 1 U (bf E2 I)]) ?_ ?_
 refine Rcl 4 q (Zq (ab E80 t0.inits e28 q q Zl) q (Rlc 4 q (cL (λn env' st'=>∃(P:Int),∃(m:lL),∃(A:Nat),f23_l3 t0 Z n P m=some r∧Sub [(3, .os 0 0),(52, .l E80 t0.inits),(53, .n (List.length t0.inits:Int)),(54, .n P)] env'∧SLe st' [.os 71 1 0 (aX 1 A (List.length m)), .fam 2 1 A (bf E2 m)]) (λn=>n) (Int.toNat ((List.length t0.inits:Int) - 0)+1) ⟨0,C,_,h,(Sx q (Sx q (Sx q (Sx q (Sub.nil _))))),⟨Zf,Zf,Zt⟩⟩ ?_)))
 rintro n F G ⟨P,m,A,h,hsub,hst⟩
 rcases n with _|n
 rw[f23_l3] at h;cases h
 rw[f23_l3] at h
 refine WC.sub hsub (WC.weak hst ?_)
 refine Rcc 6 q (Ci h q (λh=>?_) λh=>?_)
 refine Rcl 6 q (Ix h e28 fK q Zl q q λe _ h=>(Rl 1 q (Al z80 q (sS Z6 s80 Z2 (Rlc 2 q ?_)))))
 obtain⟨Q,K,h⟩:=ae h
 obtain⟨b1,a0,h⟩:=ae h
 apply RT [_,_,_,_,_,_,_,_,_,_, .u] [4,10] [[.os 71 1 0 (List.set (aX 1 (A+1) (List.length m)) (Int.toNat e.o) [.os 3 0]), .fam 2 1 (A+1) (bf E2 (List.set m (Int.toNat e.o) [])), .row 80 [.n e.o, .n e.slot, .n e.v], .os 2 1 0 (eM E2 Q)],[.os 71 1 0 (List.set (aX 1 (A+1) (List.length m)) (Int.toNat e.o) [.os 3 0]), .fam 2 1 (A+1) (bf E2 (List.set m (Int.toNat e.o) [])), .row 80 [.n e.o, .n e.slot, .n e.v], .os 2 1 0 (eM E2 (List.set Q (Int.toNat e.slot) e.v))]] [p01 3,p01 8,p10 1,p20 0 2,p10 3,u01 8,u10 5,u01 8,u10 7,q20 4 6 1,q20 9 8 1] kR kR q q
 refine Y3 ?_
 refine zo (λ_=>Zq (eT e69 q q q (af K) (eF K)) q (Zd q q q)) ?_
 refine zo (λ_=>mQ (gW (L:=m) (x:=Q) (i:=e.o) 0 1 q q q K) (Zq (iK (i:=e.o) q q a71 (cZ K)) q (Zd q q q))) ?_
 refine X2d ?_
 refine zo (λ_=>Zq (lU e71 q q q a0) q (Zd q q q)) ?_
 exact zo (λ_=>WL.s0 (dp (R:=E2) (k:=1) (i:=e.slot) (fo:=0) e.v q q q q Zl q q q s2 q (λ_=>q) a0 q q) (Zw q) q (aJ q q)) Zt
 exact rt (gX (L0:=m) (x':=(List.set Q (Int.toNat e.slot) e.v)) 0 1 3 q q q q q (cZ K)) (Rxx 6 q (WE.drop 2 (env':=[(3, .os 0 0),(52, .l E80 t0.inits),(53, .n (List.length t0.inits:Int)),(54, .n (IntKind.i64.wrap (P+1)))]) Sb q Kv (Nat.zero_le _) (Fn3 h)))
 exact Rcx 4 q (En2 h)
 rintro F G ⟨I,U,h,hsub,hst⟩
 subst bd
 dsimp only at h
 refine WC.sub hsub (WC.weak hst ?_)
 refine Rcx 7 q (rt (lg (E:=E2) (R':=E2) (L:=I) 0 1 fg q q q) ?_)
 exact WE.freezeX [3,69,2] [] 0 _ q (ai t7 _) ⟨q,q,q,Zt⟩ Zt (FA h)

end Go.Proofs.YtkbpoeellidgeaaGreatDoor
