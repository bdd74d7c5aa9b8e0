/- The walks of functions that this law reaches. -/
import Derived.Test.YtejcfgjpdocaoaaGreatDoorH
set_option linter.unusedVariables false
set_option linter.unusedSimpArgs false
set_option linter.unusedSectionVars false
set_option linter.unnecessarySimpa false
set_option maxHeartbeats 4000000
set_option maxRecDepth 100000
namespace Go.Proofs.YtejcfgjpdocaoaaGreatDoor
open Tryz
open Go Go.Sk

theorem f24s_c(a:au→Option (Int))(e0:au)(g:∀(x0:au)(r:Int),a x0=some r→Pu prog 24 [.ag (R80 x0)] (.i .i64 r)){r:Int}(h:f24s a e0=some r):Pu prog 24 [.ag (R80 e0)] (.i .i64 r):=by
 unfold f24s at h
 refine fI func24 λ_ _=>?_
 refine Rcl 2 q (Bd q q (Zs _) q (Rlc 8 q (Jn1 (λc=> [(3, .n c)]) (λ_=> []) h (λj h=>?_) λc h=>?_)))
 refine Rcc 6 q (Ln2 (λe f=> [(1, .d (.pc (R80 e0))),(3, .n e),(4, .n f)]) (λ_ _=> []) (f24s_l1 a e0 j) h (λ_ _ h=>by rw[f24s_l1] at h;cases h) λn e f h=>?_)
 rw[f24s_l1] at h
 refine Rcl 6 q (Zq (aa E80 e0.l e73 q q Zl) q (Rl 2 q ?_))
 refine AG 3 10 13 3 3 ?_
 refine Rlc 2 q (Ci h q (λh=>?_) λh=>?_)
 refine Rcl 9 q (Ix h e73 fe q Zl q q λm _ h=>(Rl 1 q ?_))
 obtain⟨p,k,h⟩:=ac h
 exact wF Z4 (g _ _ k) Lw Z3 (Rlx 10 q (Fn2 h))
 exact Rcx 4 q (En1 h)
 exact Rcx 7 q (FA h)

theorem f24_c:∀(n:Nat)(x0:au){r:Int},f24 n x0=some r→Pu prog 24 [.ag (R80 x0)] (.i .i64 r)
 |0,_,_,h=>by cases h
 |n+1,x0,_,h=>f24s_c (f24 n) x0 (λx0 _ h=>f24_c n x0 h) h

theorem f24w_c{x0:au}{r:Int}(h:f24w x0=some r):Pu prog 24 [.ag (R80 x0)] (.i .i64 r):=f24_c (ny x0) x0 h

theorem f8_c{t0:ai}{r:Bool}(h:f8 t0=some r):Pu prog 8 [.ag (R33 t0)] (.b r):=by
 unfold f8 at h
 refine fI func8 λ_ _=>?_
 refine Rcl 2 q (Bd q q (Zs _) q (Rll 7 q (Zq (aa E59 t0.insns e22 q q Zl) q (Rl 2 q (Zq (aa E83 t0.handlers e23 q q Zl) q (Rl 3 q (Zq (aa cw t0.loops e24 q q Zl) q (Rl 3 q (Zq (aa E65 t0.selects e25 q q Zl) q (Rl 3 q (Zq (aa E54 t0.lists e26 q q Zl) q (Rl 3 q (Zq (aa E67 t0.objs e27 q q Zl) q (Rl 3 q (Zq (aa E93 t0.inits e28 q q Zl) q (Rl 3 q (Zq (aa E70 t0.tasks e29 q q Zl) q (Rl 3 q (Zq (aa E75 t0.prots e30 q q Zl) q (Rl 3 q (Zq (aa cM t0.checks e31 q q Zl) q (Rlc 11 q (Ci h q (λh=>?_) λh=>?_)))))))))))))))))))))))
 exact Rcx 7 q (FA h)
 refine Rcc 2 q (Jn1 (λe=> [(1, .d (.pc (R33 t0))),(3, .n e)]) (λ_=> []) h (λQ h=>?_) λe h=>?_)
 refine Rcc 6 q (Ln2 (λf g=> [(1, .d (.pc (R33 t0))),(3, .n f),(4, .n g)]) (λ_ _=> []) (f8_l1 t0 Q) h (λ_ _ h=>by rw[f8_l1] at h;cases h) λn f g h=>?_)
 rw[f8_l1] at h
 refine Rcl 6 q (Zq (aa E65 t0.selects e25 q q Zl) q (Rlc 3 q (Ci h q (λh=>?_) λh=>?_)))
 exact Rcl 9 q (Ix h e25 nF q Zl q q λR _ h=>(Rl 2 q (Zq (aa dW R.alts e63 q q Zl) q (Rlx 10 q (Fn2 h)))))
 exact Rcx 4 q (En1 h)
 refine Jn1 (λj=> [(1, .d (.pc (R33 t0))),(3, .n j)]) (λ_=> []) h (λS h=>?_) (λj h=>?_)
 refine Rcc 6 q (Ln2 (λk m=> [(1, .d (.pc (R33 t0))),(3, .n k),(5, .n m)]) (λ_ _=> []) (f8_l2 t0 S) h (λ_ _ h=>by rw[f8_l2] at h;cases h) λn k m h=>?_)
 rw[f8_l2] at h
 refine Rcl 6 q (Zq (aa E54 t0.lists e26 q q Zl) q (Rlc 3 q (Ci h q (λh=>?_) λh=>?_)))
 exact Rcl 9 q (Ix h e26 nG q Zl q q λT _ h=>(Rl 1 q (Zq (aa E3 T e54 q q Zl) q (Rlx 10 q (Fn2 h)))))
 exact Rcx 4 q (En1 h)
 refine Jn1 (λp=> [(1, .d (.pc (R33 t0))),(3, .n p)]) (λ_=> []) h (λU h=>?_) (λp h=>?_)
 refine Rcc 6 q (Ln2 (λt w=> [(1, .d (.pc (R33 t0))),(3, .n t),(6, .n w)]) (λ_ _=> []) (f8_l3 t0 U) h (λ_ _ h=>by rw[f8_l3] at h;cases h) λn t w h=>?_)
 rw[f8_l3] at h
 refine Rcl 6 q (Zq (aa E67 t0.objs e27 q q Zl) q (Rlc 3 q (Ci h q (λh=>?_) λh=>?_)))
 refine Rcc 4 q (aw kR kR (Rq 4 q ?_))
 obtain⟨V,x,h⟩:=ac h
 refine WQ.qn (ah e27 q Zl q (af x) (ar bu x) q) q (Rq 2 q (WQ.qn (aa E3 V.set_ e54 q q Zl) q (Rq 4 q ?_)))
 obtain⟨bb,y,h⟩:=ac h
 exact WQ.qn (ah e27 q Zl q (af y) (ar bu y) q) q (Rq 2 q (WQ.qn (nK q q q) q (WQ.qn (sY q q dC q) q (WQ.qn (nL q q q) q (Rq 2 q (WQ.nil (Rxx 7 q (Fn2 h))))))))
 exact Rcx 4 q (En1 h)
 refine Jn1 (λA=> [(1, .d (.pc (R33 t0))),(3, .n A)]) (λ_=> []) h (λW h=>?_) (λA h=>?_)
 refine Rcc 6 q (Ln2 (λB a=> [(1, .d (.pc (R33 t0))),(3, .n B),(7, .n a)]) (λ_ _=> []) (f8_l4 t0 W) h (λ_ _ h=>by rw[f8_l4] at h;cases h) λn B a h=>?_)
 rw[f8_l4] at h
 refine Rcl 6 q (Zq (aa E70 t0.tasks e29 q q Zl) q (Rl 2 q ?_))
 refine AG 3 114 117 3 3 ?_
 refine Rlc 2 q (Ci h q (λh=>?_) λh=>?_)
 refine Rcc 2 q (Jn1 (λC=> [(1, .d (.pc (R33 t0))),(3, .n C),(7, .n a)]) (λ_=> []) h (λ_ h=>?_) λC h=>?_)
 refine Rcc 1 q (Jn1 (λE=> [(1, .d (.pc (R33 t0))),(3, .n E),(7, .n a)]) (λ_=> []) h (λX h=>?_) λE h=>?_)
 refine Rcc 6 q (Ln2 (λF G=> [(1, .d (.pc (R33 t0))),(3, .n F),(7, .n a),(8, .n G)]) (λ_ _=> []) (f8_l5 t0 a X) h (λ_ _ h=>by rw[f8_l5] at h;cases h) λna F G h=>?_)
 rw[f8_l5] at h
 refine Rcl 7 q (Ix h e29 dV q Zl q q λY _ h=>(Rl 2 q (Zq (aa E72 Y.entries e68 q q Zl) q (Rl 2 q ?_))))
 refine AG 3 129 132 3 3 ?_
 refine Rlc 2 q (Ci h q (λh=>?_) λh=>?_)
 refine Rcc 4 q (aw kR kR (Rq 4 q ?_))
 obtain⟨bk,H,h⟩:=ac h
 refine WQ.qn (ah e29 q Zl q (af H) (ar dV H) q) q (Rq 3 q ?_)
 obtain⟨Z,I,h⟩:=ac h
 refine WQ.qn (ah e68 q Zl q (af I) (ar gf I) q) q (Rq 2 q (WQ.qn (aa E3 Z.ins e54 q q Zl) q (Rq 4 q ?_)))
 obtain⟨bs,J,h⟩:=ac h
 refine WQ.qn (ah e29 q Zl q (af J) (ar dV J) q) q (Rq 3 q ?_)
 obtain⟨ad,K,h⟩:=ac h
 exact WQ.qn (ah e68 q Zl q (af K) (ar gf K) q) q (Rq 2 q (WQ.qn (aa E3 ad.outs e54 q q Zl) q (Rq 3 q (WQ.nil (Rxx 7 q (Fn2 h))))))
 exact Rcx 4 q (En1 h)
 exact Rcl 5 q (Ix h e29 dV q Zl q q λa0 _ h=>(Rl 2 q (Zq (aa E72 a0.entries e68 q q Zl) q (Rlx 4 q (En1 h)))))
 exact Rcx 5 q (Fn2 h)
 exact Rcx 4 q (En1 h)
 refine Jn1 (λL=> [(3, .n L)]) (λ_=> []) h (λa1 h=>?_) (λL h=>?_)
 refine Rcc 6 q (Ln2 (λM c=> [(1, .d (.pc (R33 t0))),(3, .n M),(9, .n c)]) (λ_ _=> []) (f8_l6 t0 a1) h (λ_ _ h=>by rw[f8_l6] at h;cases h) λn M c h=>?_)
 rw[f8_l6] at h
 refine Rcl 6 q (Zq (aa E75 t0.prots e30 q q Zl) q (Rl 2 q ?_))
 refine AG 3 175 178 3 3 ?_
 refine Rlc 2 q (Ci h q (λh=>?_) λh=>?_)
 refine Rcc 2 q (Jn1 (λN=> [(1, .d (.pc (R33 t0))),(3, .n N),(9, .n c)]) (λ_=> []) h (λa6 h=>?_) λN h=>?_)
 refine Rcl 7 q (Ix h e30 ge q Zl q q λa7 _ h=>(Rl 2 q (Zq (aa E80 a7.barriers e73 q q Zl) q (Rlc 10 q (Ln2 (λO P=> [(1, .d (.pc (R33 t0))),(3, .n O),(9, .n c),(10, .n P)]) (λ_ _=> []) (f8_l7 t0 c a6) h (λ_ _ h=>by rw[f8_l7] at h;cases h) λna O P h=>?_)))))
 rw[f8_l7] at h
 refine Rcl 7 q (Ix h e30 ge q Zl q q λa8 _ h=>(Rl 2 q (Zq (aa E80 a8.barriers e73 q q Zl) q (Rl 2 q ?_))))
 refine AG 3 199 202 3 3 ?_
 refine Rl 1 q ?_
 refine AG 3 203 206 3 3 ?_
 refine Rlc 2 q (Ci h q (λh=>?_) λh=>?_)
 refine Rcl 9 q (Ix h e30 ge q Zl q q λb0 _ h=>(Rl 3 q (Ix h e73 fe q Zl q q λb1 _ h=>(Rl 1 q ?_))))
 obtain⟨b2,a',h⟩:=ac h
 exact wF Z4 (f24w_c a') Lw Z3 (Rlx 10 q (Fn2 h))
 exact Rcx 5 q (En1 h)
 exact Rcx 5 q (Fn2 h)
 exact Rcx 4 q (En1 h)
 exact Rcx 8 q (FA h)

theorem f9_c{r:Bool}(h:f9=some r):Pu prog 9 [] (.v (.bool r)):=by obtain rfl:=inS h;exact sk

theorem f3_c(t0:ai){r:Bool}(h:f3 t0=some r):Pu prog 3 [.ag (R33 t0)] (.b r):=by
 unfold f3 at h
 refine fI func3 λ_ _=>?_
 refine Rcl 2 q (Bd q q (Zs _) q (Rll 7 q ?_))
 obtain⟨B,p,h⟩:=ac h
 refine wF Z4 (f8_c p) Lw Z3 (Rlc 2 q (Ci h q (λh=>?_) λh=>?_))
 refine Rcl 2 q ?_
 obtain⟨C,t,h⟩:=ac h
 exact WL.fn q q q q (f9_c t) Zt (Zw q) q q (Rlx 5 q (FA h))
 refine Rcc 2 q (Jn1 (λg=> [(2, .d (D.b g))]) (λ_=> []) h (λ_ h=>?_) λg h=>?_)
 obtain⟨w,e,h⟩:=ac h
 obtain⟨x,f,h⟩:=ac h
 rcases hY ((w==x)) with a|a
 replace h:=cX h a
 obtain⟨E,j,h⟩:=ac h
 obtain⟨F,k,h⟩:=ac h
 obtain⟨y,m,h⟩:=ac h
 rcases hY y with c|c
 replace h:=cX h c
 obtain⟨G,A,h⟩:=ac h
 apply RT [_,_,_,_,_,_,_,_,_,_,_,_,_,_,_,_] [] [] [p01 1,p10 0,p01 1,p10 2,p20 1 3,p10 4,p11 5 1,p20 6 5,p11 5 1,p20 8 5,p30 7 9 5,p20 5 10,p10 11,p10 12,p20 12 13,p10 14] kR kR q q
 refine Y1 ?_
 refine zo (λ_=>wF Z4 (f10_c _ e) Lw Z3 (Zd q q q)) ?_
 refine Y1 ?_
 refine zo (λ_=>wF Z4 (f11_c f) Lw Z3 (Zd q q q)) ?_
 refine zo (λ_=>Zq (nM underlying4 q q) q (Zd q q q)) ?_
 refine zo (rc a) ?_
 refine Y1 ?_
 refine zo (λ_=>WL.fn q q q q (f13_c j) Lw (aG q q q) q q (Zd q q q)) ?_
 refine Y1 ?_
 refine zo (λ_=>WL.fn q q q q (f14_c k) Lw (aG q q q) q q (Zd q q q)) ?_
 refine zo (λ_=>WL.fn q q q q (f12_c m) Lw (aG q q q) q q (Zd q q q)) ?_
 refine Y1 ?_
 refine zo (rc c) ?_
 refine zo (λ_=>WL.fn q q q q (f9_c A) Zt (aG q q q) q q (Zd q q q)) ?_
 exact Y2 Zt
 exact En1 h
 replace h:=cY h c
 apply RT [_,_,_,_,_,_,_,_,_,_,_,_,_,_,_,_] [] [] [p01 1,p10 0,p01 1,p10 2,p20 1 3,p10 4,p11 5 1,p20 6 5,p11 5 1,p20 8 5,p30 7 9 5,p20 5 10,p10 11,p10 12,p20 12 13,p10 14] kR kR q q
 refine Y1 ?_
 refine zo (λ_=>wF Z4 (f10_c _ e) Lw Z3 (Zd q q q)) ?_
 refine Y1 ?_
 refine zo (λ_=>wF Z4 (f11_c f) Lw Z3 (Zd q q q)) ?_
 refine zo (λ_=>Zq (nM underlying4 q q) q (Zd q q q)) ?_
 refine zo (rc a) ?_
 refine Y1 ?_
 refine zo (λ_=>WL.fn q q q q (f13_c j) Lw (aG q q q) q q (Zd q q q)) ?_
 refine Y1 ?_
 refine zo (λ_=>WL.fn q q q q (f14_c k) Lw (aG q q q) q q (Zd q q q)) ?_
 refine zo (λ_=>WL.fn q q q q (f12_c m) Lw (aG q q q) q q (Zd q q q)) ?_
 refine Y1 ?_
 refine zo (rc c) ?_
 exact Y3 Zt
 exact En1 h
 replace h:=cY h a
 apply RT [_,_,_,_,_,_,_,_,_,_,_,_,_,_,_,_] [] [] [p01 1,p10 0,p01 1,p10 2,p20 1 3,p10 4,p10 5,p10 5,p10 5,p10 5,p10 5,p20 5 10,p10 11,p10 12,p20 12 13,p10 14] kR kR q q
 refine Y1 ?_
 refine zo (λ_=>wF Z4 (f10_c _ e) Lw Z3 (Zd q q q)) ?_
 refine Y1 ?_
 refine zo (λ_=>wF Z4 (f11_c f) Lw Z3 (Zd q q q)) ?_
 refine zo (λ_=>Zq (nM underlying4 q q) q (Zd q q q)) ?_
 refine zo (rc a) ?_
 refine Y9 ?_
 exact Y1 Zt
 exact En1 h
 exact Rcx 1 q (FA h)

end Go.Proofs.YtejcfgjpdocaoaaGreatDoor
