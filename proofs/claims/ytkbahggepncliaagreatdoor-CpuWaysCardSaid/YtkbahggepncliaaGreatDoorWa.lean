/- The walks of functions. -/
import Derived.Test.YtkbahggepncliaaGreatDoorX
set_option linter.unusedVariables false
set_option linter.unusedSimpArgs false
set_option linter.unusedSectionVars false
set_option linter.unnecessarySimpa false
set_option maxHeartbeats 4000000
set_option maxRecDepth 100000
namespace Go.Proofs.YtkbahggepncliaaGreatDoor
open Tryz
open Go Go.Sk

theorem f158_c(s0:lI)(a:Int→oB)(g1:FuncId)(e f:lD)(j:∀(y0:Int)(r:Bool),a y0=some r→Pu prog g1 (e++ [.i .i64 y0]++f) (.b r)){r:Int}(h:f158 s0 a=some r):Pu prog 158 [.sl (List.map E3 s0), .fnc (.func g1) e f] (.i .i64 r):=by
 unfold f158 at h
 refine fI func158 λ_ _=>?_
 refine WC.cast 1 q (fx _ _ _) (Rcc 5 q (Jn0 [] [] h (λk h=>?_) λh=>?_))
 refine Rcl 3 q (Zq (ab E3 s0 e96 q q Zl) q (Rlc 4 q (Ln1 (λg=> [(0, .l E3 s0),(1, .fn (.func g1) (List.map AV.d e) (List.map AV.d f)),(7, .n (List.length s0:Int)),(8, .n g)]) (λ_=> []) (f158_l1 s0 a k) h (λ_ h=>by rw[f158_l1] at h;cases h) λn g h=>?_)))
 rw[f158_l1] at h
 refine Rcc 6 q (Ci h q (λh=>?_) λh=>?_)
 refine Rcl 15 q (Ix h e96 iy q Zl q q λp _ h=>(Rl 1 q ?_))
 obtain⟨t,m,h⟩:=aa h
 refine WL.fn q q q q (j _ _ m) (jy Lw) (Zw q) q q (Rlc 2 q (Ci h q (λh=>?_) λh=>?_))
 exact Rcx 12 q (FA h)
 exact Rcx 7 q (Fn1 h)
 exact Rcx 4 q (En0 h)
 exact Rcx 6 q (FA h)

theorem f128_c(s0:lI)(e:Int→oB)(g1:FuncId)(a d:lD)(f:∀(y0:Int)(r:Bool),e y0=some r→Pu prog g1 (a++ [.i .i64 y0]++d) (.b r)){r:Bool}(h:f128 s0 e=some r):Pu prog 128 [.sl (List.map E3 s0), .fnc (.func g1) a d] (.b r):=by
 unfold f128 at h
 refine fI func128 λ_ _=>?_
 refine WC.cast 1 q (fx _ _ _) (Rcl 9 q ?_)
 obtain⟨j,g,h⟩:=aa h
 exact wF Z4 (f158_c _ _ g1 a d f g) ⟨Zl,(Le.fnc (Zs _) (Zs _)),Zt⟩ Z3 (Rlx 5 q (FA h))

theorem f129_c(n0:Int)(a:Int):Pu prog 129 [.i .i64 n0, .pc (E2 a)] (.b (f129 n0 a)):=by
 generalize h:f129 n0 a=r
 unfold f129 at h
 refine fI func129 λ_ _=>?_
 exact Rcx 15 q (FB h)

theorem f79_c{o0:Obj}{v1:Int}{r:Bool}(h:f79 o0 v1=some r):Pu prog 79 [.ag (dV o0), .i .i64 v1] (.b r):=by
 unfold f79 at h
 refine fI func79 λ_ _=>?_
 refine Rcl 2 q (Bd q q (Zs _) q (WL.s ((gU q q (by exact(show Les [.n v1] (List.map AV.d [.i .i64 v1]) from Lw))).does) (Zw q) q q (Rlc 10 q (Ci h q (λh=>?_) λh=>?_))))
 refine Rcl 5 q ?_
 obtain⟨a,e,h⟩:=aa h
 refine Gg 5 9 14 a e (λh=>?_) (λh=>?_) ?_
 exact On 5 5 h
 refine Rl 3 q ?_
 obtain⟨g,f,h⟩:=aa h
 exact WL.fn q q q q (f128_c _ _ 129 [] [(.pc (E2 v1))] (λz0 _ h=>by obtain rfl:=inS h;exact f129_c z0 v1) f) ⟨Zl,(Le.fnc Zt Lw),Zt⟩ (bu q q q) q q (On 1 5 h)
 exact Rlx 5 q (FA h)
 refine Rcl 9 q ?_
 refine AG 5 19 24 5 5 ?_
 exact Rlx 4 q (FA h)

theorem f110_c{t0:bn}{o1:Obj}{r:Bool}(h:f110 t0 o1=some r):Pu prog 110 [.ag (bE t0), .ag (dV o1)] (.b r):=by
 unfold f110 at h
 refine fI func110 λ_ _=>?_
 refine Rcl 2 q (Bd q q (Zs _) q (Bd q q (Zs _) q (Rll 10 q ?_)))
 refine OG 4 11 15 4 4 ?_
 refine Rl 1 q ?_
 refine OG 6 16 22 6 6 ?_
 refine Rlc 2 q (Ci h q (λh=>Rcx 7 q (FA h)) λh=>?_)
 refine Rcc 10 q (Ci h q (λh=>Rcl 4 q (Zq (ab E3 o1.set_ e96 q q Zl) q (Rlx 6 q (FA h)))) λh=>?_)
 refine Rcc 7 q (Jn0 [(3, .d (.pc (dV o1)))] [] h (λj h=>?_) λh=>?_)
 refine Rcl 4 q (Zq (ab E3 o1.set_ e96 q q Zl) q (Rlc 4 q (Ln2 (λa e=> [(2, .d (.pc (bE t0))),(3, .d (.pc (dV o1))),(5, .n a),(31, .l E3 o1.set_),(32, .n (List.length o1.set_:Int)),(33, .n e)]) (λ_ _=> []) (f110_l1 t0 o1 j) h (λ_ _ h=>by rw[f110_l1] at h;cases h) λn a e h=>?_)))
 rw[f110_l1] at h
 refine Rcc 6 q (Ci h q (λh=>?_) λh=>?_)
 refine Rcl 6 q (Ix h e96 iy q Zl q q λx _ h=>(Rll 11 q ?_))
 apply WL.or 7 (t:=40) (d:=47)
 exact q
 intro y
 exact Rl 4 q (Zy (ab cL t0.text.objs e33 q q Zl) q q q (Rl 2 q (WL.nil ⟨q,[_,_,_,_,_,_,_],q,q,q⟩)))
 exact Rn 7 7
 refine Rl 1 q ?_
 obtain⟨k,m,h⟩:=aa h
 refine Gg 9 48 57 k m (λh=>?_) (λh=>?_) ?_
 exact On 9 9 h
 refine Rl 4 q ?_
 obtain⟨A,f,h⟩:=aa h
 exact Zy (aj e33 q Zl q (ae f) (aR cg f) q) q q q (On 4 9 h)
 refine Rl 1 q ?_
 obtain⟨p,w,h⟩:=aa h
 refine Gg 8 58 66 p w (λh=>?_) (λh=>?_) ?_
 exact On 8 8 h
 refine Rl 4 q ?_
 obtain⟨B,g,h⟩:=aa h
 exact Zy (aj e33 q Zl q (ae g) (aR cg g) q) q q q (On 3 8 h)
 exact Rlc 2 q (Ci h q (λh=>Rcx 12 q (FA h)) λh=>Rcx 12 q (Fn2 h))
 exact Rcx 4 q (En0 h)
 refine Rcl 6 q ?_
 refine AG 4 72 76 4 4 ?_
 exact Rlx 4 q (FA h)

theorem f111_c{t0:bn}{o1:Int}{a:Int}{e:Int}{r:Bool}(h:f111 t0 o1 a e=some r):Pu prog 111 [.ag (bE t0), .i .i64 o1, .i .i64 a, .i .i64 e] (.b r):=by
 unfold f111 at h
 refine fI func111 λ_ _=>?_
 refine Rcl 2 q (Bd q q (Zs _) q (Rll 8 q ?_))
 apply WL.and 7 (t:=11) (d:=18)
 exact q
 intro k
 exact Rl 4 q (Zy (ab cL t0.text.objs e33 q q Zl) q q q (Rl 2 q (WL.nil ⟨q,[_,_,_,_,_,_,_],q,q,q⟩)))
 exact Rn 7 7
 refine Rl 1 q ?_
 refine AG 3 19 22 3 3 ?_
 refine Rl 1 q ?_
 obtain⟨g,j,h⟩:=aa h
 refine Gg 12 23 35 g j (λh=>?_) (λh=>?_) ?_
 refine Rl 5 q ?_
 obtain⟨m,f,h⟩:=aa h
 exact Zy (aj e33 q Zl q (ae f) (aR cg f) q) q q q (On 6 12 h)
 exact On 12 12 h
 exact Rlx 4 q (FA h)

theorem f68_c{t0:bn}{r:Bool}(h:f68 t0=some r):Pu prog 68 [.ag (bE t0)] (.b r):=by
 unfold f68 at h
 refine fI func68 λ_ _=>?_
 refine Rcl 2 q (Bd q q (Zs _) q (Rll 9 q (Zq (ab cL t0.text.objs e33 q q Zl) q (Rl 2 q ?_))))
 refine OG 5 15 20 5 5 ?_
 refine Rl 1 q ?_
 refine OG 5 21 26 5 5 ?_
 refine Rlc 2 q (Ci h q (λh=>Rcx 7 q (FA h)) λh=>?_)
 refine Rcc 7 q (Jn1 (λe=> [(1, .d (.pc (bE t0))),(3, .n e)]) (λ_=> []) h (λE h=>?_) λe h=>?_)
 refine Rcl 5 q (Zq (ab cL t0.text.objs e33 q q Zl) q (Rlc 4 q (Ln2 (λg j=> [(1, .d (.pc (bE t0))),(3, .n g),(29, .l cL t0.text.objs),(30, .n (List.length t0.text.objs:Int)),(31, .n j)]) (λ_ _=> []) (f68_l1 t0 E) h (λ_ _ h=>by rw[f68_l1] at h;cases h) λn g j h=>?_)))
 rw[f68_l1] at h
 refine Rcc 6 q (Ci h q (λh=>?_) λh=>?_)
 refine Rcl 6 q (Ix h e33 cg q Zl q q λF _ h=>(Rl 1 q (Al lw q (sS Z6 mY Z2 (Rll 7 q ?_)))))
 obtain⟨M,G,h⟩:=aa h
 refine wF Z4 (f110_c G) ⟨Zl,(aw (Zs _)),Zt⟩ Z3 (Rlc 3 q (Ci h q (λh=>?_) λh=>?_))
 exact Rcx 12 q (FA h)
 exact Rcx 15 q (WE.drop 0 (env':=[(1, .d (.pc (bE t0))),(3, .n (IntKind.i64.wrap (g+F.size))),(29, .l cL t0.text.objs),(30, .n (List.length t0.text.objs:Int)),(31, .n (IntKind.i64.wrap (j+1)))]) Sb q q (Nat.zero_le _) (Fn2 h))
 exact Rcx 4 q (En1 h)
 refine Rcl 2 q (WL.s ((gu (α:=Bool) (λx:Int×Int=>Value.agg ⟨[Value.int .i64 x.1,Value.int .i64 x.2]⟩) (λx:Bool=>AV.d (.b x))).does) (Zw q) q q (Rlc 3 q (Jn1 (λ_=> [(3, .n e)]) (λy=> [mpO (λx:Int×Int=>Value.agg ⟨[Value.int .i64 x.1,Value.int .i64 x.2]⟩) (λx:Bool=>AV.d (.b x)) y]) h (λH h=>?_) λy h=>?_)))
 refine Rcl 5 q (Zq (ab gV t0.text.inits e34 q q Zl) q (Rlc 4 q (Ln2 (λm _=> [(1, .d (.pc (bE t0))),(3, .n e),(6, .mp 0),(47, .l gV t0.text.inits),(48, .n (List.length t0.text.inits:Int)),(49, .n m)]) (λ_ f=> [mpO (λx:Int×Int=>Value.agg ⟨[Value.int .i64 x.1,Value.int .i64 x.2]⟩) (λx:Bool=>AV.d (.b x)) f]) (f68_l2 t0 H) h (λ_ _ h=>by rw[f68_l2] at h;cases h) λn m f h=>?_)))
 rw[f68_l2] at h
 refine Rcc 6 q (Ci h q (λh=>?_) λh=>?_)
 refine Rcl 6 q (Ix h e34 pI q Zl q q λa _ h=>(Rl 1 q (Al z140 q (sS Z6 s140 Z2 (Rll 8 q (Zq (aB p168 z168 q q) q (Al z168 q (sS Z6 s168 Z2 (Rlc 4 q (am kR kR (Rq 2 q (WQ.qn (n8 (λx:Int×Int=>Value.agg ⟨[Value.int .i64 x.1,Value.int .i64 x.2]⟩) (λx:Bool=>AV.d (.b x)) f (k:=(a.o,a.slot)) (z:=false) (vs:=[.int .i64 a.o, .int .i64 a.slot]) underlying166 (lu underlying168 underlying3 underlying3 q q kR) q q q (aw (Zs _)) q kR q) q (Rq 1 q ?_)))))))))))))
 obtain⟨I,A,h⟩:=aa h
 apply WQ.grp 8 (t:=61) (d:=69) (z:=I)
 exact q
 intro p
 have h:=dP A p
 refine Rq 8 q ?_
 obtain rfl:=Oi h
 exact WQ.nil ⟨[_,_,_,_,_,_,_,_],q,q,q⟩
 intro p
 have h:=dQ A p
 refine Rq 5 q ?_
 obtain⟨N,J,h⟩:=aa h
 refine WQ.q (YieldsQ.fn q q q q q (f111_c J) Lw) (bu q q q) q q (Rq 2 q ?_)
 obtain rfl:=Oi h
 exact WQ.nil ⟨[_,_,_,_,_,_,_,_],q,q,q⟩
 refine Rq 1 q ?_
 obtain⟨K,B,h⟩:=aa h
 apply WQ.grp 12 (t:=70) (d:=82) (z:=K)
 exact q
 intro w
 have h:=dP B w
 refine Rq 12 q ?_
 obtain rfl:=Oi h
 exact WQ.nil ⟨[_,_,_,_,_,_,_,_,_,_,_,_],q,q,q⟩
 intro w
 have h:=dQ B w
 refine Rq 5 q ?_
 obtain⟨O,C,h⟩:=aa h
 refine WQ.qy (aj e33 q Zl q (ae C) (aR cg C) q) q q q (Rq 3 q ?_)
 obtain⟨P,L,h⟩:=aa h
 refine WQ.q (YieldsQ.fn q q q q q (f79_c L) Lw) (bu q q q) q q (Rq 2 q ?_)
 obtain rfl:=Oi h
 exact WQ.nil ⟨[_,_,_,_,_,_,_,_,_,_,_,_],q,q,q⟩
 refine WQ.nil (Rxc 1 q (Ci h q (λh=>?_) λh=>?_))
 exact Rcx 12 q (FA h)
 exact Rcl 5 q (WL.s0 (kJ (λx:Int×Int=>Value.agg ⟨[Value.int .i64 x.1,Value.int .i64 x.2]⟩) (λx:Bool=>AV.d (.b x)) f (k:=(a.o,a.slot)) (vs:=[.int .i64 a.o, .int .i64 a.slot]) (.inr q) underlying166 (lu underlying168 underlying3 underlying3 q q kR) q q q (aw (Zs _)) q q) (Zw q) q (Rlx 7 q (WE.drop 1 (env':=[(1, .d (.pc (bE t0))),(3, .n e),(6, .mp 0),(47, .l gV t0.text.inits),(48, .n (List.length t0.text.inits:Int)),(49, .n (IntKind.i64.wrap (m+1)))]) Sb q (d9 (re _ (λx:Int×Int=>Value.agg ⟨[Value.int .i64 x.1,Value.int .i64 x.2]⟩) (λx:Bool=>(.b x:D)) _) q) (Nat.zero_le _) (Fn2 h))))
 exact Rcx 4 q (En1 h)
 exact Rcx 8 q (FA h)

theorem f112_c{t0:bn}{a1:Int}:Pu prog 112 [.ag (bE t0), .i .i64 a1] (.b (f112 t0 a1)):=by
 generalize h:f112 t0 a1=r
 unfold f112 at h
 refine fI func112 λ_ _=>?_
 refine Rcl 2 q (Bd q q (Zs _) q (Rll 8 q ?_))
 apply WL.and 7 (t:=7) (d:=14)
 exact q
 intro a
 exact Rl 4 q (Zy (ab E45 t0.text.insns e23 q q Zl) q q q (Rl 2 q (WL.nil ⟨q,[_,_,_,_,_,_,_],q,q,q⟩)))
 exact Rn 7 7
 exact Rlx 4 q (FB h)

theorem f149_c(s0:List bS)(a:bS→oB)(g1:FuncId)(e f:lD)(j:∀(y0:bS)(r:Bool),a y0=some r→Pu prog g1 (e++ [.ag (rT y0)]++f) (.b r)){r:Int}(h:f149 s0 a=some r):Pu prog 149 [.sl (List.map kM s0), .fnc (.func g1) e f] (.i .i64 r):=by
 unfold f149 at h
 refine fI func149 λ_ _=>?_
 refine WC.cast 1 q (fx _ _ _) (Rcc 5 q (Jn0 [] [] h (λk h=>?_) λh=>?_))
 refine Rcl 3 q (Zq (ab kM s0 e25 q q Zl) q (Rlc 4 q (Ln1 (λg=> [(0, .l kM s0),(1, .fn (.func g1) (List.map AV.d e) (List.map AV.d f)),(7, .n (List.length s0:Int)),(8, .n g)]) (λ_=> []) (f149_l1 s0 a k) h (λ_ h=>by rw[f149_l1] at h;cases h) λn g h=>?_)))
 rw[f149_l1] at h
 refine Rcc 6 q (Ci h q (λh=>?_) λh=>?_)
 refine Rcl 15 q (Ix h e25 pF q Zl q q λp _ h=>(Rl 1 q ?_))
 obtain⟨t,m,h⟩:=aa h
 refine WL.fn q q q q (j _ _ m) (jy Lw) (Zw q) q q (Rlc 2 q (Ci h q (λh=>?_) λh=>?_))
 exact Rcx 12 q (FA h)
 exact Rcx 7 q (Fn1 h)
 exact Rcx 4 q (En0 h)
 exact Rcx 6 q (FA h)

theorem f113_c(s0:List bS)(e:bS→oB)(g1:FuncId)(a d:lD)(f:∀(y0:bS)(r:Bool),e y0=some r→Pu prog g1 (a++ [.ag (rT y0)]++d) (.b r)){r:Bool}(h:f113 s0 e=some r):Pu prog 113 [.sl (List.map kM s0), .fnc (.func g1) a d] (.b r):=by
 unfold f113 at h
 refine fI func113 λ_ _=>?_
 refine WC.cast 1 q (fx _ _ _) (Rcl 9 q ?_)
 obtain⟨j,g,h⟩:=aa h
 exact wF Z4 (f149_c _ _ g1 a d f g) ⟨Zl,(Le.fnc (Zs _) (Zs _)),Zt⟩ Z3 (Rlx 5 q (FA h))

theorem f150_c(o0:Int)(a:bn){r:Bool}(h:f150 o0 a=some r):Pu prog 150 [.i .i64 o0, .pc (bE a)] (.b r):=by
 unfold f150 at h
 refine fI func150 λ_ _=>?_
 refine Rcl 10 q ?_
 apply WL.or 7 (t:=6) (d:=13)
 exact q
 intro j
 exact Rl 4 q (Zy (ab cL a.text.objs e33 q q Zl) q q q (Rl 2 q (WL.nil ⟨q,[_,_,_,_,_,_,_],q,q,q⟩)))
 exact Rn 7 7
 refine Rl 1 q ?_
 obtain⟨f,g,h⟩:=aa h
 refine Gg 9 14 23 f g (λh=>?_) (λh=>?_) ?_
 exact On 9 9 h
 refine Rl 4 q ?_
 obtain⟨k,e,h⟩:=aa h
 exact Zy (aj e33 q Zl q (ae e) (aR cg e) q) q q q (On 4 9 h)
 exact Rlx 4 q (FA h)

theorem f115_c{t0:bn}{l1:lI}{r:Bool}(h:f115 t0 l1=some r):Pu prog 115 [.ag (bE t0), .sl (List.map E3 l1)] (.b r):=by
 unfold f115 at h
 refine fI func115 λ_ _=>?_
 refine Rcl 2 q (Bd q q (Zs _) q (Rll 6 q (Zq (ab E3 l1 e96 q q Zl) q (Rl 2 q ?_))))
 obtain⟨a,d,h⟩:=aa h
 refine Gg 5 8 13 a d (λh=>?_) (λh=>?_) ?_
 refine Rl 2 q ?_
 obtain⟨f,e,h⟩:=aa h
 exact WL.fn q q q q (f128_c _ _ 150 [] [(.pc (bE t0))] (λz0 _ h=>f150_c z0 t0 h) e) ⟨Zl,(Le.fnc Zt Lw),Zt⟩ (bu q q q) q q (On 2 5 h)
 exact On 5 5 h
 exact Rlx 4 q (FA h)

theorem f114_c(e0:bS)(a:bn){r:Bool}(h:f114 e0 a=some r):Pu prog 114 [.ag (rT e0), .pc (bE a)] (.b r):=by
 unfold f114 at h
 refine fI func114 λ_ _=>?_
 refine Rcl 2 q (Bd q q (Zs _) q (Rll 8 q ?_))
 obtain⟨j,d,h⟩:=aa h
 refine wF Z4 (f115_c d) Lw Z3 (Rl 2 q ?_)
 obtain⟨e,f,h⟩:=aa h
 refine Gg 6 9 15 e f (λh=>?_) (λh=>?_) ?_
 exact On 6 6 h
 refine Rl 3 q ?_
 obtain⟨k,g,h⟩:=aa h
 exact WL.fn q q q q (f115_c g) Lw (bu q q q) q q (On 2 6 h)
 exact Rlx 4 q (FA h)

theorem f69_c{t0:bn}{r:Bool}(h:f69 t0=some r):Pu prog 69 [.ag (bE t0)] (.b r):=by
 unfold f69 at h
 refine fI func69 λ_ _=>?_
 refine Rcl 2 q (Bd q q (Zs _) q (Rll 9 q (Zq (ab E27 t0.text.tasks e28 q q Zl) q (Rl 2 q ?_))))
 apply WL.or 6 (t:=10) (d:=16)
 exact q
 intro j
 exact Rl 3 q (Zy (ab E27 t0.text.tasks e28 q q Zl) q q q (Rl 2 q (WL.nil ⟨q,[_,_,_,_,_,_],q,q,q⟩)))
 exact Rn 6 6
 refine Rlc 2 q (Ci h q (λh=>Rcx 7 q (FA h)) λh=>?_)
 refine Rcc 2 q (Jn0 [] [] h (λe h=>?_) λh=>?_)
 refine Rcl 5 q (Zq (ab E27 t0.text.tasks e28 q q Zl) q (Rlc 4 q (Ln1 (λa=> [(1, .d (.pc (bE t0))),(19, .l E27 t0.text.tasks),(20, .n (List.length t0.text.tasks:Int)),(21, .n a)]) (λ_=> []) (f69_l1 t0 e) h (λ_ h=>by rw[f69_l1] at h;cases h) λn a h=>?_)))
 rw[f69_l1] at h
 refine Rcc 6 q (Ci h q (λh=>?_) λh=>?_)
 refine Rcl 6 q (Ix h e28 mt q Zl q q λf _ h=>(Rl 1 q (Al z27 q (sS Z6 s27 Z2 (Rll 9 q ?_)))))
 refine OG 4 28 32 4 4 ?_
 refine Rl 1 q ?_
 apply WL.or 6 (t:=33) (d:=39)
 exact q
 intro k
 exact Rl 3 q (WL.fn q q q q (f112_c) Lw (bu q q q) q q (Rl 2 q (WL.nil ⟨q,[_,_,_,_,_,_],q,q,q⟩)))
 exact Rn 6 6
 refine Rl 1 q ?_
 refine OG 4 40 44 4 4 ?_
 refine Rl 1 q ?_
 refine OG 4 45 49 4 4 ?_
 refine Rl 1 q ?_
 apply WL.or 5 (t:=50) (d:=55)
 exact q
 intro m
 exact Rl 2 q (Zy (ab kM f.entries e25 q q Zl) q q q (Rl 2 q (WL.nil ⟨q,[_,_,_,_,_],q,q,q⟩)))
 exact Rn 5 5
 refine Rlc 2 q (Ci h q (λh=>Rcx 12 q (FA h)) λh=>?_)
 refine Rcl 7 q ?_
 obtain⟨p,g,h⟩:=aa h
 refine wF Z4 (f113_c _ _ 114 [] [(.pc (bE t0))] (λz0 _ h=>f114_c z0 t0 h) g) ⟨Zl,(Le.fnc Zt Lw),Zt⟩ Z3 (Rlc 2 q (Ci h q (λh=>?_) λh=>?_))
 exact Rcx 11 q (FA h)
 exact Rcx 7 q (WE.drop 0 (env':=[(1, .d (.pc (bE t0))),(19, .l E27 t0.text.tasks),(20, .n (List.length t0.text.tasks:Int)),(21, .n (IntKind.i64.wrap (a+1)))]) Sb q q (Nat.zero_le _) (Fn1 h))
 exact Rcx 4 q (En0 h)
 exact Rcx 6 q (FA h)

theorem f70_c{t0:bn}{r:Bool}(h:f70 t0=some r):Pu prog 70 [.ag (bE t0)] (.b r):=by
 unfold f70 at h
 refine fI func70 λ_ _=>?_
 refine Rcl 2 q (Bd q q (Zs _) q (Rll 9 q (Zq (ab E96 t0.text.lists e32 q q Zl) q (Rlc 3 q (Ci h q (λh=>?_) λh=>?_)))))
 exact Rcx 7 q (FA h)
 refine Rcc 2 q (Jn0 [] [] h (λm h=>?_) λh=>?_)
 refine Rcl 5 q (Zq (ab E96 t0.text.lists e32 q q Zl) q (Rlc 4 q (Ln1 (λe=> [(1, .d (.pc (bE t0))),(15, .l E96 t0.text.lists),(16, .n (List.length t0.text.lists:Int)),(17, .n e)]) (λ_=> []) (f70_l1 t0 m) h (λ_ h=>by rw[f70_l1] at h;cases h) λn e h=>?_)))
 rw[f70_l1] at h
 refine Rcc 6 q (Ci h q (λh=>?_) λh=>?_)
 refine Rcc 2 q (Jn1 (λ_=> [(1, .d (.pc (bE t0))),(15, .l E96 t0.text.lists),(16, .n (List.length t0.text.lists:Int)),(17, .n e)]) (λg=> [mpO (λx:Int=>Value.int .i64 x) (λx:Bool=>AV.d (.b x)) g]) h (λ_ h=>?_) λg h=>?_)
 refine Rcl 3 q (Ix h e32 uD q Zl q q λa _ h=>(Rll 6 q (WL.s ((gu (α:=Bool) (λx:Int=>Value.int .i64 x) (λx:Bool=>AV.d (.b x))).does) (Zw q) q q (Rlc 3 q (Jn1 (λ_=> [(1, .d (.pc (bE t0))),(4, .l E3 a),(15, .l E96 t0.text.lists),(16, .n (List.length t0.text.lists:Int)),(17, .n e)]) (λj=> [mpO (λx:Int=>Value.int .i64 x) (λx:Bool=>AV.d (.b x)) j]) h (λp h=>?_) λj h=>?_)))))
 refine Rcl 3 q (Zq (ab E3 a e96 q q Zl) q (Rlc 4 q (Ln2 (λk _=> [(1, .d (.pc (bE t0))),(4, .l E3 a),(5, .mp 0),(15, .l E96 t0.text.lists),(16, .n (List.length t0.text.lists:Int)),(17, .n e),(22, .l E3 a),(23, .n (List.length a:Int)),(24, .n k)]) (λ_ f=> [mpO (λx:Int=>Value.int .i64 x) (λx:Bool=>AV.d (.b x)) f]) (f70_l2 t0 a p) h (λ_ _ h=>by rw[f70_l2] at h;cases h) λna k f h=>?_)))
 rw[f70_l2] at h
 refine Rcc 6 q (Ci h q (λh=>?_) λh=>?_)
 refine Rcl 6 q (Ix h e96 iy q Zl q q λw _ h=>(Rll 10 q ?_))
 apply WL.or 7 (t:=30) (d:=37)
 exact q
 intro y
 exact Rl 4 q (Zy (ab E27 t0.text.tasks e28 q q Zl) q q q (Rl 2 q (WL.nil ⟨q,[_,_,_,_,_,_,_],q,q,q⟩)))
 exact Rn 7 7
 refine Rl 1 q ?_
 apply WL.or 4 (t:=38) (d:=42)
 exact q
 intro A
 exact Rl 2 q (Zy (mz (λx:Int=>Value.int .i64 x) (λx:Bool=>AV.d (.b x)) f (z:=false) underlying176 underlying3 (KeyF.int .i64) q q q kR q) q q q (Rl 1 q (WL.nil ⟨q,[_,_,_,_],q,q,q⟩)))
 exact Rn 4 4
 refine Rlc 2 q (Ci h q (λh=>Rcx 17 q (FA h)) λh=>?_)
 exact Rcl 5 q (WL.s0 (aO (λx:Int=>Value.int .i64 x) (λx:Bool=>AV.d (.b x)) f (.inr q) underlying176 underlying3 (KeyF.int .i64) q q q q) (Zw q) q (Rlx 7 q (Fn2 h)))
 exact Rcx 4 q (En1 h)
 refine Rcl 3 q (Zq (ab E3 a e96 q q Zl) q (Rlc 3 q (Ci h q (λh=>?_) λh=>?_)))
 exact Rcx 11 q (FA h)
 exact Rcx 2 q (En1 h)
 exact Rcx 4 q (WE.drop 0 (env':=[(1, .d (.pc (bE t0))),(15, .l E96 t0.text.lists),(16, .n (List.length t0.text.lists:Int)),(17, .n (IntKind.i64.wrap (e+1)))]) Sb q q (Nat.zero_le _) (Fn1 h))
 exact Rcx 4 q (En0 h)
 exact Rcx 6 q (FA h)

theorem f116s_c(b1:lN→lH→lP→lS→lL→lO→lT→Int→lK→lM→lC→Int→Int→bv→Int→Option (Bool×lN×lH×lP×lS×lL×lO×lT×Int×lK×lM×lC×Int×Int))(f:lN)(g:lH)(j:lP)(k:lS)(m:lL)(p:lO)(w:lT)(x:Int)(y:lK)(A:lM)(B:lC)(jent:Int)(jleft:Int)(e1:bv)(C:Int)(e0:∀(f:lN)(g:lH)(j:lP)(k:lS)(m:lL)(p:lO)(w:lT)(x:Int)(y:lK)(A:lM)(B:lC)(jent:Int)(jleft:Int)(x1:bv)(x2:Int)(r:Bool×lN×lH×lP×lS×lL×lO×lT×Int×lK×lM×lC×Int×Int),b1 f g j k m p w x y A B jent jleft x1 x2=some r→Ctr prog 116 [.pt 0 0, .d (.ag (oQ x1)), .n x2] [.row 182 (txW f g j k m p w x y A B jent jleft)] (jr 1 (.b r.1) (λ_=> [.row 182 (txW r.2.1 r.2.2.1 r.2.2.2.1 r.2.2.2.2.1 r.2.2.2.2.2.1 r.2.2.2.2.2.2.1 r.2.2.2.2.2.2.2.1 r.2.2.2.2.2.2.2.2.1 r.2.2.2.2.2.2.2.2.2.1 r.2.2.2.2.2.2.2.2.2.2.1 r.2.2.2.2.2.2.2.2.2.2.2.1 r.2.2.2.2.2.2.2.2.2.2.2.2.1 r.2.2.2.2.2.2.2.2.2.2.2.2.2)]))){r:Bool×lN×lH×lP×lS×lL×lO×lT×Int×lK×lM×lC×Int×Int}(h:f116s b1 f g j k m p w x y A B jent jleft e1 C=some r):Ctr prog 116 [.pt 0 0, .d (.ag (oQ e1)), .n C] [.row 182 (txW f g j k m p w x y A B jent jleft)] (jr 1 (.b r.1) (λ_=> [.row 182 (txW r.2.1 r.2.2.1 r.2.2.2.1 r.2.2.2.2.1 r.2.2.2.2.2.1 r.2.2.2.2.2.2.1 r.2.2.2.2.2.2.2.1 r.2.2.2.2.2.2.2.2.1 r.2.2.2.2.2.2.2.2.2.1 r.2.2.2.2.2.2.2.2.2.2.1 r.2.2.2.2.2.2.2.2.2.2.2.1 r.2.2.2.2.2.2.2.2.2.2.2.2.1 r.2.2.2.2.2.2.2.2.2.2.2.2.2)])):=by
 unfold f116s at h
 refine cI func116 λ_ _ _ hmm=>?_
 refine Rcl 2 q (Bx q q q (Bd q q (Zs _) q (WL.s ((gU q q (by exact(show Les [.n C] (List.map AV.d [.i .i64 C]) from Lw))).does) (Zw q) q q (Rll 12 q (sS Z6 s3 Z2 (St q (Rll 6 q ?_)))))))
 obtain⟨e2,e3,h⟩:=ah h
 refine WL.inl (us:=[.pt 0 0, .d (.ag (oQ e1))]) (λrv st'=>(∃(b2:Bool),∃(b3:Int),∃(a:bv),∃(E:Int),∃(F:Int),∃(G:Int),∃(H:Int),e2 b2 b3 a E F G H=some r∧Le rv (.tu [.d (.ag (oQ a)), .n b3, .d (D.b b2)])∧SLe st' [.row 182 (txW f g j k m p w x y A B jent (IntKind.i64.wrap (jleft - 1))), .row 180 [.pt 0 0], .row 179 [.d (D.i .u8 e1.kind), .d (D.i .u8 E), .n F, .n G, .n H, .n 0, .n 0, .n 0,sN]])) q q q q q ?_ (Zw q) q q ?_
 refine cI func151 λ_ _ _ _=>?_
 refine Rcl 2 q (Bd q q (Zs _) q (Al tH q (Rll 9 q (sS Z6 s177 Z2 (St q (Rlc 2 q (Jn5 (λb4 _ _ _ _=> [(4, .pt 2 0),(5, .n b4)]) (λ_ J K L M=> [.row 182 (txW f g j k m p w x y A B jent (IntKind.i64.wrap (jleft - 1))), .row 180 [.pt 0 0], .row 179 [.d (D.i .u8 e1.kind), .d (D.i .u8 J), .n K, .n L, .n M, .n 0, .n 0, .n 0,sN]]) h (λ_ h=>?_) λb4 J K L M h=>?_)))))))
 refine Rcc 13 q (Ci h q (λh=>Rcl 4 q (sS Z6 s2 Z2 (St q (Rlx 2 q (En5 h))))) λh=>?_)
 refine Rcc 6 q (Ci h q (λh=>?_) λh=>?_)
 refine Rcc 2 q (am kR kR (Rq 8 q ?_))
 obtain⟨fz,e4,h⟩:=aa h
 refine WQ.q (YieldsQ.fn q q q q q (f111_c e4) ⟨(aw (Zs _)),Zl,Zl,Zl,Zt⟩) (Zw q) q q (Rq 2 q ?_)
 obtain⟨e5,d1,h⟩:=aa h
 apply WQ.grp 12 (t:=30) (d:=42) (z:=e5)
 exact q
 intro b5
 have h:=dP d1 b5
 refine Rq 12 q ?_
 obtain rfl:=Oi h
 exact WQ.nil ⟨[_,_,_,_,_,_,_,_,_,_,_,_],q,q,q⟩
 intro b5
 have h:=dQ d1 b5
 refine Rq 8 q ?_
 obtain⟨f0,d2,h⟩:=aa h
 refine WQ.qy (aj e33 q Zl q (ae d2) (aR cg d2) q) q q q (Rq 3 q ?_)
 obtain rfl:=Oi h
 exact WQ.nil ⟨[_,_,_,_,_,_,_,_,_,_,_,_],q,q,q⟩
 refine WQ.nil (Rxc 1 q (Ci h q (λh=>?_) λh=>?_))
 exact Rcl 3 q (sS Z6 jL Z2 (St q (Rlx 8 q (af (rs3 q (cz q q sZ jL q) (ap q) (ap q)) ⟨false,0,(bv.mk e1.kind 0 0 0 0 0 0 0 []),0,0,0,0,h,(Le.tu ⟨(aw ⟨Zl,Zl,Zl,Zl,Zl,Zl,Zl,Zl,Le.nil,Zt⟩),Zl,Zl,Zt⟩),⟨Zp,Zp,Zp,Zt⟩⟩))))
 refine Rcc 2 q ?_
 apply RT [_,_,_,_,_, .u,_, .u] [5,7] [[.row 182 (txW f g j k m p w x y A B jent (IntKind.i64.wrap (jleft - 1))), .row 180 [.pt 0 0], .row 179 [.d (D.i .u8 e1.kind), .d (D.i .u8 0), .n 0, .n e1.o, .n 0, .n 0, .n 0, .n 0,sN]],[.row 182 (txW f g j k m p w x y A B jent (IntKind.i64.wrap (jleft - 1))), .row 180 [.pt 0 0], .row 179 [.d (D.i .u8 e1.kind), .d (D.i .u8 0), .n 0, .n e1.o, .n e1.off, .n 0, .n 0, .n 0,sN]]] [p01 3,p10 0,u01 3,u10 2,p01 4,p20 4 1,q01 4 1,q20 6 3 1] kR kR q q
 refine Y2 ?_
 refine X2b ?_
 refine Y1 ?_
 refine zo (λ_=>sS Z6 s3 Z2 (aY q q)) ?_
 refine Y1 ?_
 exact zo (λ_=>sS Z6 s3 Z2 (aY q q)) Zt
 exact Rxx 1 q (En5 h)
 refine Rcc 6 q (Ci h q (λh=>?_) λh=>?_)
 refine Rcl 5 q (sS Z6 s2 Z2 (St q (Rlc 2 q (Jn1 (λb6=> [(4, .pt 2 0),(5, .n 0),(6, .d (D.b b6))]) (λ_=> [.row 182 (txW f g j k m p w x y A B jent (IntKind.i64.wrap (jleft - 1))), .row 180 [.pt 0 0], .row 179 [.d (D.i .u8 e1.kind), .d (D.i .u8 0), .n e1.n, .n 0, .n 0, .n 0, .n 0, .n 0,sN]]) h (λ_ h=>?_) λb6 h=>?_))))
 rcases iS (decide (e1.n≥0)) with I|I
 replace h:=dP h I
 apply RT [_,_,_,_,_,_,_,_,_,_,_,_,_, .u,_,_] [] [] [p01 4,p01 3,p10 1,p10 2,p10 3,p11 4 3,p20 5 4,p11 4 0,p20 7 4,p20 8 4,p20 9 4,p30 6 10 4,p20 4 11,p11 0 4,p00,p10 12] kR kR q q
 refine Y4 ?_
 refine zo (rc I) ?_
 refine Y8 ?_
 refine zo (λ_=>sS Z6 jL Z2 (aY q q)) ?_
 exact Y2 Zt
 exact En1 h
 replace h:=dQ h I
 apply RT [_,_,_,_,_,_,_,_,_,_,_,_,_, .u,_,_] [] [] [p01 4,p01 3,p10 1,p10 2,p10 3,p10 4,p10 4,p10 4,p10 4,p10 4,p10 4,p10 4,p20 4 11,p11 0 4,p00,p10 12] kR kR q q
 refine Y4 ?_
 refine zo (rc I) ?_
 refine Y8 ?_
 refine zo (λ_=>sS Z6 jL Z2 (aY q q)) ?_
 exact Y2 Zt
 exact En1 h
 exact Rcx 3 q (af (rs3 q (cz q q sZ jL q) (ap q) (ap q)) ⟨b6,0,(bv.mk e1.kind 0 e1.n 0 0 0 0 0 []),0,e1.n,0,0,h,(Le.tu ⟨(aw ⟨Zl,Zl,Zl,Zl,Zl,Zl,Zl,Zl,Le.nil,Zt⟩),Zl,Zl,Zt⟩),⟨Zp,Zp,Zp,Zt⟩⟩)
 refine Rcc 6 q (Ci h q (λh=>Rcl 2 q (sS Z6 s146 Z2 (St q (Rlx 3 q (En5 h))))) λh=>?_)
 refine Rcc 6 q (Ci h q (λh=>?_) λh=>?_)
 exact Rcl 3 q (Zq (qr q q q) q (Zq (oU q q q) q (Rl 1 q (sS Z6 s146 Z2 (St q (Rlx 3 q (En5 h)))))))
 refine Jn1 (λd3=> [(4, .pt 2 0),(78, .d (D.b d3))]) (λ_=> [.row 182 (txW f g j k m p w x y A B jent (IntKind.i64.wrap (jleft - 1))), .row 180 [.pt 0 0], .row 179 [.d (D.i .u8 e1.kind), .d (D.i .u8 0), .n 0, .n 0, .n 0, .n 0, .n 0, .n 0,sN]]) h (λ_ h=>?_) (λd3 h=>?_)
 exact Rcc 6 q (Ci h q (λh=>Rcx 1 q (En1 h)) λh=>Rcx 4 q (En1 h))
 refine Ci h q (λh=>?_) (λh=>?_)
 exact Rcx 4 q (En5 h)
 exact Rcl 3 q (sS Z6 jL Z2 (St q (Rlx 7 q (af (rs3 q (cz q q sZ jL q) (ap q) (ap q)) ⟨false,0,(bv.mk e1.kind 0 0 0 0 0 0 0 []),0,0,0,0,h,(Le.tu ⟨(aw ⟨Zl,Zl,Zl,Zl,Zl,Zl,Zl,Zl,Le.nil,Zt⟩),Zl,Zl,Zt⟩),⟨Zp,Zp,Zp,Zt⟩⟩))))
 exact Rcl 4 q (sS Z6 jL Z2 (St q (Rlx 5 q (af (rs3 q (cz q q sZ jL q) (ap q) (ap q)) ⟨true,b4,(bv.mk e1.kind J K L M 0 0 0 []),J,K,L,M,h,(Le.tu ⟨(aw ⟨Zl,Zl,Zl,Zl,Zl,Zl,Zl,Zl,Le.nil,Zt⟩),Zl,Zl,Zt⟩),⟨Zp,Zp,Zp,Zt⟩⟩))))
 rintro rv st1 ⟨b2,b3,a,E,F,G,H,h,hr,hst⟩
 subst e3
 dsimp only at h
 refine WL.cast 20 q hr (WL.weak hst (Rl 4 q (Al tH q (sS Z6 jL Z2 (St q (Rl 2 q (Zn (Rcl 9 q ?_))))))))
 refine OG 3 29 32 3 3 ?_
 refine Rl 1 q ?_
 refine OG 3 33 36 3 3 ?_
 refine Rl 1 q ?_
 apply WL.or 6 (t:=37) (d:=43)
 exact q
 intro f1
 exact Rl 2 q (Zy (ab dW e1.l nD q q Zl) q q q (Rl 3 q (WL.nil ⟨q,[_,_,_,_,_,_],q,q,q⟩)))
 exact Rn 6 6
 refine Rl 1 q ?_
 refine OG 6 44 50 6 6 ?_
 refine Rl 1 q ?_
 refine OG 6 51 57 6 6 ?_
 refine Rl 1 q ?_
 refine OG 6 58 64 6 6 ?_
 refine Rl 1 q ?_
 refine OG 6 65 71 6 6 ?_
 refine Rl 1 q ?_
 refine OG 4 72 76 4 4 ?_
 refine Rl 1 q ?_
 refine OG 4 77 81 4 4 ?_
 refine Rl 1 q ?_
 refine OG 4 82 86 4 4 ?_
 refine Rlc 2 q (Ci h q (λh=>?_) λh=>?_)
 refine Rcx 7 q ?_
 obtain rfl:=Oi h
 exact ja 0 (rs1 q (ap q)) Zl q ⟨Zp,Zt⟩
 refine Rcl 7 q ?_
 obtain⟨e6,e7,h⟩:=ah h
 refine WL.inl (us:=[.l dW e1.l, .fn (.func 153) [] [.pt 1 0, .d (.pc (E3 C))]]) (λrv st'=>(∃(b7:Bool),∃(b8:lN),∃(b9:lH),∃(b':lP),∃(ca:lS),∃(cb:lL),∃(cc:lO),∃(cd:lT),∃(ci:Int),∃(cj:lK),∃(cl:lM),∃(cn:lC),∃(cp:Int),∃(cx:Int),e6 b7 b8 b9 b' ca cb cc cd ci cj cl cn cp cx=some r∧Le rv (.d (D.b b7))∧SLe st' [.row 182 (txW b8 b9 b' ca cb cc cd ci cj cl cn cp cx), .row 180 [.pt 0 0], .row 179 [.d (D.i .u8 e1.kind), .d (D.i .u8 E), .n F, .n G, .n H, .n 0, .n 0, .n 0,sN], .row 179 [.d (D.i .u8 a.kind), .d (D.i .u8 a.op), .n a.n, .n a.o, .n a.off, .n a.len, .n a.lo, .n a.hi, .l dW a.l]])) q q q q q ?_ (Zw q) q q ?_
 refine cI func152 λ_ _ _ _=>?_
 refine Rcl 9 q ?_
 obtain⟨d',e8,h⟩:=ah h
 refine WL.inl (us:=[.l dW e1.l, .fn (.func 153) [] [.pt 1 0, .d (.pc (E3 C))]]) (λrv st'=>(∃(N:Int),∃(O:lN),∃(P:lH),∃(Q:lP),∃(R:lS),∃(S:lL),∃(T:lO),∃(U:lT),∃(V:Int),∃(W:lK),∃(X:lM),∃(Y:lC),∃(Z:Int),∃(ad:Int),d' N O P Q R S T U V W X Y Z ad=some r∧Le rv (.n N)∧SLe st' [.row 182 (txW O P Q R S T U V W X Y Z ad), .row 180 [.pt 0 0], .row 179 [.d (D.i .u8 e1.kind), .d (D.i .u8 E), .n F, .n G, .n H, .n 0, .n 0, .n 0,sN], .row 179 [.d (D.i .u8 a.kind), .d (D.i .u8 a.op), .n a.n, .n a.o, .n a.off, .n a.len, .n a.lo, .n a.hi, .l dW a.l]])) q q q q q ?_ (Zw q) q q ?_
 refine cI func174 λ_ _ _ _=>?_
 refine Rcc 5 q (Jn13 (λ_ _ _ _ _ _ _ _ _ _ _ _ _=> []) (λc0 c1 c2 c3 c4 c5 c6 c7 c' dd df ds dA=> [.row 182 (txW c0 c1 c2 c3 c4 c5 c6 c7 c' dd df ds dA), .row 180 [.pt 0 0], .row 179 [.d (D.i .u8 e1.kind), .d (D.i .u8 E), .n F, .n G, .n H, .n 0, .n 0, .n 0,sN], .row 179 [.d (D.i .u8 a.kind), .d (D.i .u8 a.op), .n a.n, .n a.o, .n a.off, .n a.len, .n a.lo, .n a.hi, .l dW a.l]]) h (λe' h=>?_) λc0 c1 c2 c3 c4 c5 c6 c7 c' dd df ds dA h=>?_)
 refine Rcl 3 q (Zq (ab dW e1.l nD q q Zl) q (Rlc 4 q (Ln14 (λdS _ _ _ _ _ _ _ _ _ _ _ _ _=> [(0, .l dW e1.l),(1, .fn (.func 153) [] [.pt 1 0, .d (.pc (E3 C))]),(7, .n (List.length e1.l:Int)),(8, .n dS)]) (λ_ ea eb ee ei el em en er es et ew ex ey=> [.row 182 (txW ea eb ee ei el em en er es et ew ex ey), .row 180 [.pt 0 0], .row 179 [.d (D.i .u8 e1.kind), .d (D.i .u8 E), .n F, .n G, .n H, .n 0, .n 0, .n 0,sN], .row 179 [.d (D.i .u8 a.kind), .d (D.i .u8 a.op), .n a.n, .n a.o, .n a.off, .n a.len, .n a.lo, .n a.hi, .l dW a.l]]) (f116s_l1 b1 e1 C d' e') h (λ_ _ _ _ _ _ _ _ _ _ _ _ _ _ h=>by rw[f116s_l1] at h;cases h) λn dS ea eb ee ei el em en er es et ew ex ey h=>?_)))
 rw[f116s_l1] at h
 refine Rcc 6 q (Ci h q (λh=>?_) λh=>?_)
 refine Rcl 15 q (Ix h nD jz q Zl q q λfo _ h=>(Rl 1 q ?_))
 obtain⟨fr,fu,h⟩:=ah h
 refine WL.inl (us:=[.d (.ag (oQ fo)), .pt 1 0, .d (.pc (E3 C))]) (λrv st'=>(∃(d0:Bool),∃(ax:lN),∃(a0:lH),∃(a1:lP),∃(a6:lS),∃(a7:lL),∃(a8:lO),∃(a9:lT),∃(a':Int),∃(bb:lK),∃(bk:lM),∃(bo:lC),∃(bs:Int),∃(b0:Int),fr d0 ax a0 a1 a6 a7 a8 a9 a' bb bk bo bs b0=some r∧Le rv (.d (D.b d0))∧SLe st' [.row 182 (txW ax a0 a1 a6 a7 a8 a9 a' bb bk bo bs b0), .row 180 [.pt 0 0], .row 179 [.d (D.i .u8 e1.kind), .d (D.i .u8 E), .n F, .n G, .n H, .n 0, .n 0, .n 0,sN], .row 179 [.d (D.i .u8 a.kind), .d (D.i .u8 a.op), .n a.n, .n a.o, .n a.off, .n a.len, .n a.lo, .n a.hi, .l dW a.l]])) q q q q q ?_ (Zw q) q q ?_
 refine cI func153 λ_ _ _ _=>?_
 refine Rcl 2 q (Bd q q (Zs _) q (Rll 9 q ?_))
 obtain⟨e,fv,h⟩:=aa h
 refine jw [0] q q q q (e0 _ _ _ _ _ _ _ _ _ _ _ _ _ _ _ _ fv) Lw q dC (Re q) ⟨q,Zt⟩ q q (λ_=>q) (λ_=>(Re q)) (Zw q) q q (λf2=>?_)
 exact Rlx 5 q (af (rs1 q (ap q)) ⟨(!e.1),e.2.1,e.2.2.1,e.2.2.2.1,e.2.2.2.2.1,e.2.2.2.2.2.1,e.2.2.2.2.2.2.1,e.2.2.2.2.2.2.2.1,e.2.2.2.2.2.2.2.2.1,e.2.2.2.2.2.2.2.2.2.1,e.2.2.2.2.2.2.2.2.2.2.1,e.2.2.2.2.2.2.2.2.2.2.2.1,e.2.2.2.2.2.2.2.2.2.2.2.2.1,e.2.2.2.2.2.2.2.2.2.2.2.2.2,h,Zl,⟨Zp,Zp,Zp,Zp,Zt⟩⟩)
 rintro rv st1 ⟨d0,ax,a0,a1,a6,a7,a8,a9,a',bb,bk,bo,bs,b0,h,hr,hst⟩
 subst fu
 dsimp only at h
 refine WL.cast 16 q hr (WL.weak hst (Zn (Ci h q (λh=>?_) λh=>?_)))
 exact Rcx 12 q (af (rs1 q (ap q)) ⟨dS,ax,a0,a1,a6,a7,a8,a9,a',bb,bk,bo,bs,b0,h,Zl,⟨Zp,Zp,Zp,Zp,Zt⟩⟩)
 exact Rcx 7 q (cZ ⟨_,⟨_,_,_,_,_,_,_,_,_,_,_,_,_,_,h,Sb,Tv⟩,Nat.lt_succ_self _⟩)
 exact Rcx 4 q (cZ ⟨_,_,_,_,_,_,_,_,_,_,_,_,_,h,Sb,Tv⟩)
 exact Rcx 6 q (af (rs1 q (ap q)) ⟨(-1),c0,c1,c2,c3,c4,c5,c6,c7,c',dd,df,ds,dA,h,Zl,⟨Zp,Zp,Zp,Zp,Zt⟩⟩)
 rintro rv st1 ⟨N,O,P,Q,R,S,T,U,V,W,X,Y,Z,ad,h,hr,hst⟩
 subst e8
 dsimp only at h
 exact WL.cast 7 q hr (WL.weak hst (Rl 2 q (Zn (Rcx 1 q (af (rs1 q (ap q)) ⟨(decide (N≥0)),O,P,Q,R,S,T,U,V,W,X,Y,Z,ad,h,Zl,⟨Zp,Zp,Zp,Zp,Zt⟩⟩)))))
 rintro rv st1 ⟨b7,b8,b9,b',ca,cb,cc,cd,ci,cj,cl,cn,cp,cx,h,hr,hst⟩
 subst e7
 dsimp only at h
 refine WL.cast 90 q hr (WL.weak hst (Rl 2 q (Zn (Rcx 1 q ?_))))
 obtain rfl:=Oi h
 exact ja 0 (rs1 q (ap q)) Zl q ⟨Zp,Zt⟩

theorem f116_c:∀(n:Nat)(a:lN)(e:lH)(f:lP)(g:lS)(j:lL)(k:lO)(m:lT)(p:Int)(t:lK)(w:lM)(x:lC)(jent:Int)(jleft:Int)(x1:bv)(x2:Int){r:Bool×lN×lH×lP×lS×lL×lO×lT×Int×lK×lM×lC×Int×Int},f116 n a e f g j k m p t w x jent jleft x1 x2=some r→Ctr prog 116 [.pt 0 0, .d (.ag (oQ x1)), .n x2] [.row 182 (txW a e f g j k m p t w x jent jleft)] (jr 1 (.b r.1) (λ_=> [.row 182 (txW r.2.1 r.2.2.1 r.2.2.2.1 r.2.2.2.2.1 r.2.2.2.2.2.1 r.2.2.2.2.2.2.1 r.2.2.2.2.2.2.2.1 r.2.2.2.2.2.2.2.2.1 r.2.2.2.2.2.2.2.2.2.1 r.2.2.2.2.2.2.2.2.2.2.1 r.2.2.2.2.2.2.2.2.2.2.2.1 r.2.2.2.2.2.2.2.2.2.2.2.2.1 r.2.2.2.2.2.2.2.2.2.2.2.2.2)]))
 |0,_,_,_,_,_,_,_,_,_,_,_,_,_,_,_,_,h=>by cases h
 |n+1,a,e,f,g,j,k,m,p,t,w,x,jent,jleft,x1,x2,_,h=>f116s_c (f116 n) a e f g j k m p t w x jent jleft x1 x2 (λa e f g j k m p t w x jent jleft x1 x2 _ h=>f116_c n a e f g j k m p t w x jent jleft x1 x2 h) h

theorem f71_c{t0:bn}{r:Bool}(h:f71 t0=some r):Pu prog 71 [.ag (bE t0)] (.b r):=by
 unfold f71 at h
 refine fI func71 λ_ _=>?_
 refine Rcl 2 q (Bd q q (Zs _) q (Rlc 3 q (Jn0 [(1, .d (.pc (bE t0)))] [] h (λk h=>?_) λh=>?_)))
 refine Rcl 5 q (Zq (ab fJ t0.text.prots e35 q q Zl) q (Rlc 4 q (Ln1 (λe=> [(1, .d (.pc (bE t0))),(10, .l fJ t0.text.prots),(11, .n (List.length t0.text.prots:Int)),(12, .n e)]) (λ_=> []) (f71_l1 t0 k) h (λ_ h=>by rw[f71_l1] at h;cases h) λn e h=>?_)))
 rw[f71_l1] at h
 refine Rcc 6 q (Ci h q (λh=>?_) λh=>?_)
 refine Rcc 2 q (Jn2 (λ_ _=> [(1, .d (.pc (bE t0))),(10, .l fJ t0.text.prots),(11, .n (List.length t0.text.prots:Int)),(12, .n e)]) (λg j=> [.row 164 [.n g, .l dW j]]) h (λm h=>?_) λg j h=>?_)
 refine Rcl 3 q (Ix h e35 mu q Zl q q λa _ h=>(Rl 1 q (Al tI q (sS Z6 s164 Z2 (Rll 9 q ?_)))))
 refine OG 4 19 23 4 4 ?_
 refine Rl 1 q ?_
 apply WL.or 5 (t:=24) (d:=29)
 exact q
 intro w
 exact Rl 2 q (Zy (ab dW a.barriers nD q q Zl) q q q (Rl 2 q (WL.nil ⟨q,[_,_,_,_,_],q,q,q⟩)))
 exact Rn 5 5
 refine Rlc 2 q (Ci h q (λh=>Rcx 12 q (FA h)) λh=>?_)
 refine Rcl 6 q (Zq (ab dW a.barriers nD q q Zl) q (Rlc 4 q (Ln1 (λf=> [(1, .d (.pc (bE t0))),(4, .pt 0 0),(10, .l fJ t0.text.prots),(11, .n (List.length t0.text.prots:Int)),(12, .n e),(31, .l dW a.barriers),(32, .n (List.length a.barriers:Int)),(33, .n f)]) (λ_=> [.row 164 [.n a.ceiling, .l dW a.barriers]]) (f71_l2 t0 m a) h (λ_ h=>by rw[f71_l2] at h;cases h) λna f h=>?_)))
 rw[f71_l2] at h
 refine Rcc 6 q (Ci h q (λh=>?_) λh=>?_)
 refine Rcl 6 q (Ix h nD jz q Zl q q λx _ h=>(Rl 1 q (Al tH q (sS Z6 jL Z2 (Rll 7 q (Zq (ab dW a.barriers nD q q Zl) q (Zq (aB p182 z182 q q) q (Bx q q q (Rll 7 q ?_)))))))))
 obtain⟨y,p,h⟩:=aa h
 refine jw [2] q q q q (f116_c 66 _ _ _ _ _ _ _ _ _ _ _ _ _ _ _ p) ⟨Zl,(aw (Zs _)),Zl,Zt⟩ q dC (Re q) ⟨q,Zt⟩ q q (λ_=>q) (λ_=>(Re q)) (Zw q) q q (λA=>?_)
 refine Rlc 3 q (Ci h q (λh=>Rcx 15 q (FA h)) λh=>?_)
 exact Rcx 7 q (WE.drop 1 (env':=[(1, .d (.pc (bE t0))),(4, .pt 0 0),(10, .l fJ t0.text.prots),(11, .n (List.length t0.text.prots:Int)),(12, .n e),(31, .l dW a.barriers),(32, .n (List.length a.barriers:Int)),(33, .n (IntKind.i64.wrap (f+1)))]) Sb q q (Nat.zero_le _) (Fn1 h))
 exact Rcx 5 q (En2 h)
 exact Rcx 4 q (WE.drop 0 (env':=[(1, .d (.pc (bE t0))),(10, .l fJ t0.text.prots),(11, .n (List.length t0.text.prots:Int)),(12, .n (IntKind.i64.wrap (e+1)))]) Sb q q (Nat.zero_le _) (Fn1 h))
 exact Rcx 4 q (En0 h)
 exact Rcl 5 q (Zq (ab fJ t0.text.prots e35 q q Zl) q (Rlx 5 q (FA h)))

theorem f155_c{n0:Int}{a:bn}{d:Int}{r:Bool}(h:f155 n0 a d=some r):Pu prog 155 [.i .i64 n0, .pc (bE a), .pc (E3 d)] (.b r):=by
 unfold f155 at h
 refine fI func155 λ_ _=>?_
 refine Rcl 10 q ?_
 obtain⟨f,e,h⟩:=aa h
 exact wF Z4 (f111_c e) Lw Z3 (Rlx 4 q (FA h))

theorem f119_c{t0:bn}{a:Int}{a2:kL}{r:Bool}(h:f119 t0 a a2=some r):Pu prog 119 [.ag (bE t0), .i .i64 a, .ag (rU a2)] (.b r):=by
 unfold f119 at h
 refine fI func119 λ_ _=>?_
 refine Rcl 2 q (Bd q q (Zs _) q (WL.s ((gU q q (by exact(show Les [.n a] (List.map AV.d [.i .i64 a]) from Lw))).does) (Zw q) q q (Bd q q (Zs _) q (Rll 15 q (wF Z4 (f112_c) Lw Z3 (Rl 2 q ?_))))))
 obtain⟨f,g,h⟩:=aa h
 refine Gg 11 14 25 f g (λh=>?_) (λh=>?_) ?_
 exact On 11 11 h
 refine Rl 4 q ?_
 obtain⟨j,k,h⟩:=aa h
 refine Gg 6 18 24 j k (λh=>?_) (λh=>?_) ?_
 refine Rl 3 q ?_
 obtain⟨y,m,h⟩:=aa h
 exact WL.fn q q q q (f155_c m) Lw (bu q q q) q q (On 2 6 h)
 exact On 6 6 h
 exact On 1 6 h
 refine Rlc 2 q (Ci h q (λh=>Rcx 7 q (FA h)) λh=>?_)
 refine Rcc 16 q (Ci h q (λh=>?_) λh=>?_)
 refine Rcl 6 q ?_
 refine AG 4 33 37 4 4 ?_
 refine Rl 1 q ?_
 refine AG 4 38 42 4 4 ?_
 exact Rlx 6 q (FA h)
 refine Jn1 (λe=> [(5, .d (.pc (rU a2))),(7, .fn (.func 155) [] [.d (.pc (bE t0)), .d (.pc (E3 a))]),(43, .d (D.b e))]) (λ_=> []) h (λ_ h=>?_) (λe h=>?_)
 exact Rcc 6 q (Ci h q (λh=>Rcx 1 q (En1 h)) λh=>Rcx 4 q (En1 h))
 refine Ci h q (λh=>?_) (λh=>?_)
 refine Rcl 6 q ?_
 obtain⟨p,w,h⟩:=aa h
 refine Gg 5 49 54 p w (λh=>?_) (λh=>?_) ?_
 refine Rl 3 q ?_
 obtain⟨A,x,h⟩:=aa h
 exact WL.fn q q q q (f155_c x) Lw (bu q q q) q q (On 1 5 h)
 exact On 5 5 h
 exact Rlx 6 q (FA h)
 refine Rcl 9 q ?_
 apply WL.and 7 (t:=58) (d:=65)
 exact q
 intro B
 exact Rl 4 q (Zy (tM q q q) q q q (Rl 2 q (WL.nil ⟨q,[_,_,_,_,_,_,_],q,q,q⟩)))
 exact Rn 7 7
 exact Rlx 4 q (FA h)

theorem f72_c{t0:bn}{r:Bool}(h:f72 t0=some r):Pu prog 72 [.ag (bE t0)] (.b r):=by
 unfold f72 at h
 refine fI func72 λ_ _=>?_
 refine Rcl 2 q (Bd q q (Zs _) q (Rll 9 q (Zq (ab iz t0.text.selects e31 q q Zl) q (Rlc 3 q (Ci h q (λh=>?_) λh=>?_)))))
 exact Rcx 7 q (FA h)
 refine Rcc 2 q (Jn0 [] [] h (λp h=>?_) λh=>?_)
 refine Rcl 5 q (Zq (ab iz t0.text.selects e31 q q Zl) q (Rlc 4 q (Ln1 (λf=> [(1, .d (.pc (bE t0))),(12, .l iz t0.text.selects),(13, .n (List.length t0.text.selects:Int)),(14, .n f)]) (λ_=> []) (f72_l1 t0 p) h (λ_ h=>by rw[f72_l1] at h;cases h) λn f h=>?_)))
 rw[f72_l1] at h
 refine Rcc 6 q (Ci h q (λh=>?_) λh=>?_)
 refine Rcl 6 q (Ix h e31 pH q Zl q q λa _ h=>(Rl 1 q (Al z155 q (sS Z6 s155 Z2 (Rll 7 q (Zq (ab eA a.alts qf q q Zl) q (Rl 2 q ?_)))))))
 apply WL.or 5 (t:=22) (d:=27)
 exact q
 intro H
 exact Rl 2 q (Zy (ab eA a.alts qf q q Zl) q q q (Rl 2 q (WL.nil ⟨q,[_,_,_,_,_],q,q,q⟩)))
 exact Rn 5 5
 refine Rl 1 q ?_
 refine OG 4 28 32 4 4 ?_
 refine Rl 1 q ?_
 apply WL.or 8 (t:=33) (d:=41)
 exact q
 intro I
 exact Rl 5 q (Zy (ab cL t0.text.objs e33 q q Zl) q q q (Rl 2 q (WL.nil ⟨q,[_,_,_,_,_,_,_,_],q,q,q⟩)))
 exact Rn 8 8
 refine Rl 1 q ?_
 apply WL.or 11 (t:=42) (d:=53)
 exact q
 intro J
 refine Rl 4 q ?_
 apply WL.and 6 (t:=46) (d:=52)
 exact q
 intro K
 exact Rl 3 q (WL.fn q q q q (f112_c) Lw (bu q q q) q q (Rl 2 q (WL.nil ⟨q,[_,_,_,_,_,_],q,q,q⟩)))
 exact Rn 6 6
 exact Rn 1 6
 exact Rn 11 11
 refine Rlc 2 q (Ci h q (λh=>Rcx 12 q (FA h)) λh=>?_)
 refine Rcl 7 q ?_
 obtain⟨w,x,h⟩:=ah h
 refine WL.inl (us:=[.l eA a.alts, .fn (.func 118) [] [.d (.pc (bE t0)), .pt 0 0]]) (λrv st'=>(∃(g:Bool),w g=some r∧Le rv (.d (D.b g))∧SLe st' [.row 155 [.l eA a.alts, .n a.obj, .n a.else_]])) q q q q q ?_ (Zw q) q q ?_
 refine cI func117 λ_ _ _ _=>?_
 refine Rcl 9 q ?_
 obtain⟨m,y,h⟩:=ah h
 refine WL.inl (us:=[.l eA a.alts, .fn (.func 118) [] [.d (.pc (bE t0)), .pt 0 0]]) (λrv st'=>(∃(e:Int),m e=some r∧Le rv (.n e)∧SLe st' [.row 155 [.l eA a.alts, .n a.obj, .n a.else_]])) q q q q q ?_ (Zw q) q q ?_
 refine cI func154 λ_ _ _ L=>?_
 refine Rcc 5 q (Jn0 [] [.row 155 [.l eA a.alts, .n a.obj, .n a.else_]] h (λA h=>?_) λh=>?_)
 refine Rcl 3 q (Zq (ab eA a.alts qf q q Zl) q (Rlc 4 q (Ln1 (λj=> [(0, .l eA a.alts),(1, .fn (.func 118) [] [.d (.pc (bE t0)), .pt 0 0]),(7, .n (List.length a.alts:Int)),(8, .n j)]) (λ_=> [.row 155 [.l eA a.alts, .n a.obj, .n a.else_]]) (f72_l2 t0 a m A) h (λ_ h=>by rw[f72_l2] at h;cases h) λna j h=>?_)))
 rw[f72_l2] at h
 refine Rcc 6 q (Ci h q (λh=>?_) λh=>?_)
 refine Rcl 15 q (Ix h qf pG q Zl q q λB _ h=>(Rl 1 q ?_))
 obtain⟨C,E,h⟩:=ah h
 refine WL.inl (us:=[.d (.ag (rU B)), .d (.pc (bE t0)), .pt 0 0]) (λrv st'=>(∃(k:Bool),C k=some r∧Le rv (.d (D.b k))∧SLe st' [.row 155 [.l eA a.alts, .n a.obj, .n a.else_]])) q q q q q ?_ (Zw q) q q ?_
 refine cI func118 λ_ _ _ M=>?_
 refine Rcl 2 q (Bd q q (Zs _) q (Rll 9 q ?_))
 obtain⟨F,G,h⟩:=aa h
 exact wF Z4 (f119_c G) Lw Z3 (Rlx 5 q (af (rs1 q (ap q)) ⟨(!F),h,Zl,⟨Zp,Zt⟩⟩))
 rintro rv st1 ⟨k,h,hr,hst⟩
 subst E
 dsimp only at h
 refine WL.cast 16 q hr (WL.weak hst (Zn (Ci h q (λh=>?_) λh=>?_)))
 exact Rcx 12 q (af (rs1 q (ap q)) ⟨j,h,Zl,⟨Zp,Zt⟩⟩)
 exact Rcx 7 q (Fn1 h)
 exact Rcx 4 q (En0 h)
 exact Rcx 6 q (af (rs1 q (ap q)) ⟨(-1),h,Zl,⟨Zp,Zt⟩⟩)
 rintro rv st1 ⟨e,h,hr,hst⟩
 subst y
 dsimp only at h
 exact WL.cast 7 q hr (WL.weak hst (Rl 2 q (Zn (Rcx 1 q (af (rs1 q (ap q)) ⟨(decide (e≥0)),h,Zl,⟨Zp,Zt⟩⟩)))))
 rintro rv st1 ⟨g,h,hr,hst⟩
 subst x
 dsimp only at h
 refine WL.cast 57 q hr (WL.weak hst (Zn (Ci h q (λh=>?_) λh=>?_)))
 exact Rcx 11 q (FA h)
 exact Rcx 7 q (WE.drop 0 (env':=[(1, .d (.pc (bE t0))),(12, .l iz t0.text.selects),(13, .n (List.length t0.text.selects:Int)),(14, .n (IntKind.i64.wrap (f+1)))]) Sb q q (Nat.zero_le _) (Fn1 h))
 exact Rcx 4 q (En0 h)
 exact Rcx 6 q (FA h)

theorem f120_c{h0:an}{a1:Int}:Pu prog 120 [.ag (ql h0), .i .i64 a1] (.b (f120 h0 a1)):=by
 generalize h:f120 h0 a1=r
 unfold f120 at h
 refine fI func120 λ_ _=>?_
 refine Rcl 2 q (Bd q q (Zs _) q (Rll 10 q ?_))
 refine AG 5 9 14 5 5 ?_
 exact Rlx 4 q (FB h)

theorem f73_c{t0:bn}{r:Bool}(h:f73 t0=some r):Pu prog 73 [.ag (bE t0)] (.b r):=by
 unfold f73 at h
 refine fI func73 λ_ _=>?_
 refine Rcl 2 q (Bd q q (Zs _) q (Rll 9 q (Zq (ab cJ t0.text.handlers e29 q q Zl) q (Rlc 3 q (Ci h q (λh=>?_) λh=>?_)))))
 exact Rcx 7 q (FA h)
 refine Rcc 2 q (Jn0 [] [] h (λp h=>?_) λh=>?_)
 refine Rcl 5 q (Zq (ab cJ t0.text.handlers e29 q q Zl) q (Rlc 4 q (Ln1 (λa=> [(1, .d (.pc (bE t0))),(15, .l cJ t0.text.handlers),(16, .n (List.length t0.text.handlers:Int)),(17, .n a)]) (λ_=> []) (f73_l1 t0 p) h (λ_ h=>by rw[f73_l1] at h;cases h) λn a h=>?_)))
 rw[f73_l1] at h
 refine Rcc 6 q (Ci h q (λh=>?_) λh=>?_)
 refine Rcc 2 q (Jn4 (λ_ _ _ _=> [(1, .d (.pc (bE t0))),(15, .l cJ t0.text.handlers),(16, .n (List.length t0.text.handlers:Int)),(17, .n a)]) (λg j k m=> [.row 108 [.n g, .n j, .n k, .d (D.b m)]]) h (λw h=>?_) λg j k m h=>?_)
 refine Rcl 4 q (Ix h e29 d7 q Zl q q λe _ h=>(Rl 1 q (Al pJ q (Rl 1 q (sS Z6 t8 Z2 (Rll 9 q ?_))))))
 refine OG 6 25 31 6 6 ?_
 refine Rl 1 q ?_
 apply WL.or 8 (t:=32) (d:=40)
 exact q
 intro y
 exact Rl 5 q (Zy (ab E45 t0.text.insns e23 q q Zl) q q q (Rl 2 q (WL.nil ⟨q,[_,_,_,_,_,_,_,_],q,q,q⟩)))
 exact Rn 8 8
 refine Rl 1 q ?_
 apply WL.or 6 (t:=41) (d:=47)
 exact q
 intro A
 exact Rl 3 q (WL.fn q q q q (f112_c) Lw (bu q q q) q q (Rl 2 q (WL.nil ⟨q,[_,_,_,_,_,_],q,q,q⟩)))
 exact Rn 6 6
 refine Rl 1 q ?_
 apply WL.or 5 (t:=48) (d:=53)
 exact q
 intro B
 exact Rl 3 q (WL.fn q q q q (f120_c) ⟨(aw (Zs _)),Zl,Zt⟩ (bu q q q) q q (Rl 1 q (WL.nil ⟨q,[_,_,_,_,_],q,q,q⟩)))
 exact Rn 5 5
 refine Rlc 2 q (Ci h q (λh=>Rcx 12 q (FA h)) λh=>?_)
 refine Rcl 8 q ?_
 replace h:=av h
 obtain⟨x,h⟩:=h
 refine Zq (jC cJ t0.text.handlers (l:=0) (h:=a) e29 q Zl q ⟨_,q⟩ x λ_=>q) q (Zq (ab cJ (cm t0.text.handlers 0 a) e29 q q Zl) q (Rlc 4 q (Ln1 (λf=> [(1, .d (.pc (bE t0))),(4, .pt 0 0),(15, .l cJ t0.text.handlers),(16, .n (List.length t0.text.handlers:Int)),(17, .n a),(58, .l cJ (cm t0.text.handlers 0 a)),(59, .n (List.length (cm t0.text.handlers 0 a):Int)),(60, .n f)]) (λ_=> [.row 108 [.n e.from_, .n e.to, .n e.at_, .d (D.b e.clean)]]) (f73_l2 t0 a w e) h (λ_ h=>by rw[f73_l2] at h;cases h) λna f h=>?_)))
 rw[f73_l2] at h
 refine Rcc 6 q (Ci h q (λh=>?_) λh=>?_)
 refine Rcl 6 q (Ix h e29 d7 q Zl q q λC _ h=>(Rl 1 q (Al pJ q (sS Z6 t8 Z2 (Rll 10 q ?_)))))
 refine AG 6 69 75 6 6 ?_
 refine Rll 8 q ?_
 apply WL.and 12 (t:=78) (d:=90)
 exact q
 intro E
 exact Rl 4 q (Zy (oU q q q) q q q (Rl 4 q (Zy (qr q q q) q q q (Rl 2 q (WL.nil ⟨q,[_,_,_,_,_,_,_,_,_,_,_,_],q,q,q⟩)))))
 exact Rn 12 12
 refine Rlc 2 q (Ci h q (λh=>Rcx 15 q (FA h)) λh=>?_)
 exact Rcx 7 q (WE.drop 1 (env':=[(1, .d (.pc (bE t0))),(4, .pt 0 0),(15, .l cJ t0.text.handlers),(16, .n (List.length t0.text.handlers:Int)),(17, .n a),(58, .l cJ (cm t0.text.handlers 0 a)),(59, .n (List.length (cm t0.text.handlers 0 a):Int)),(60, .n (IntKind.i64.wrap (f+1)))]) Sb q q (Nat.zero_le _) (Fn1 h))
 exact Rcx 5 q (En4 h)
 exact Rcx 4 q (WE.drop 0 (env':=[(1, .d (.pc (bE t0))),(15, .l cJ t0.text.handlers),(16, .n (List.length t0.text.handlers:Int)),(17, .n (IntKind.i64.wrap (a+1)))]) Sb q q (Nat.zero_le _) (Fn1 h))
 exact Rcx 4 q (En0 h)
 exact Rcx 6 q (FA h)

theorem f121_c{x0:ak}{a:Int}:Pu prog 121 [.ag (R45 x0), .i .i64 a] (.b (f121 x0 a)):=by
 generalize h:f121 x0 a=r
 unfold f121 at h
 refine fI func121 λ_ _=>?_
 refine Rcl 2 q (Bd q q (Zs _) q (Rll 9 q ?_))
 refine OG 4 8 12 4 4 ?_
 refine Rl 1 q ?_
 refine OG 4 13 17 4 4 ?_
 refine Rl 1 q ?_
 refine AG 5 18 23 5 5 ?_
 exact Rlx 4 q (FB h)

theorem f74_c{t0:bn}{r:Bool}(h:f74 t0=some r):Pu prog 74 [.ag (bE t0)] (.b r):=by
 unfold f74 at h
 refine fI func74 λ_ _=>?_
 refine Rcl 2 q (Bd q q (Zs _) q (Rll 9 q (Zq (ab iV t0.text.loops e30 q q Zl) q (Rlc 3 q (Ci h q (λh=>?_) λh=>?_)))))
 exact Rcx 7 q (FA h)
 refine Rcl 4 q (WL.s ((gu (α:=Bool) (λx:Int=>Value.int .i64 x) (λx:Bool=>AV.d (.b x))).does) (Zw q) q q (Rlc 3 q (Jn1 (λ_=> []) (λg=> [mpO (λx:Int=>Value.int .i64 x) (λx:Bool=>AV.d (.b x)) g]) h (λm h=>?_) λg h=>?_)))
 refine Rcl 5 q (Zq (ab iV t0.text.loops e30 q q Zl) q (Rlc 4 q (Ln2 (λe _=> [(1, .d (.pc (bE t0))),(3, .mp 0),(14, .l iV t0.text.loops),(15, .n (List.length t0.text.loops:Int)),(16, .n e)]) (λ_ a=> [mpO (λx:Int=>Value.int .i64 x) (λx:Bool=>AV.d (.b x)) a]) (f74_l1 t0 m) h (λ_ _ h=>by rw[f74_l1] at h;cases h) λn e a h=>?_)))
 rw[f74_l1] at h
 refine Rcc 6 q (Ci h q (λh=>?_) λh=>?_)
 refine Rcl 6 q (Ix h e30 s7 q Zl q q λw _ h=>(Rl 1 q (Al z189 q (sS Z6 s189 Z2 (Rlc 4 q (am kR kR (Rq 4 q ?_)))))))
 apply WQ.or 6 (t:=23) (d:=29)
 exact q
 intro y
 exact Rq 6 q (WQ.nil ⟨[_,_,_,_,_,_],q,q,q⟩)
 exact Rq 6 q (WQ.nil ⟨[_,_,_,_,_,_],q,q,q⟩)
 refine Rq 1 q ?_
 apply WQ.or 6 (t:=30) (d:=36)
 exact q
 intro A
 exact Rq 3 q (WQ.q (YieldsQ.fn q q q q q (f112_c) Lw) (bu q q q) q q (Rq 2 q (WQ.nil ⟨[_,_,_,_,_,_],q,q,q⟩)))
 exact Rq 6 q (WQ.nil ⟨[_,_,_,_,_,_],q,q,q⟩)
 refine Rq 1 q ?_
 apply WQ.or 5 (t:=37) (d:=42)
 exact q
 intro B
 exact Rq 3 q (WQ.qy (mz (λx:Int=>Value.int .i64 x) (λx:Bool=>AV.d (.b x)) a (z:=false) underlying176 underlying3 (KeyF.int .i64) q q q kR q) q q q (Rq 1 q (WQ.nil ⟨[_,_,_,_,_],q,q,q⟩)))
 exact Rq 5 q (WQ.nil ⟨[_,_,_,_,_],q,q,q⟩)
 refine Rq 1 q ?_
 obtain⟨p,j,h⟩:=aa h
 apply WQ.grp 12 (t:=43) (d:=55) (z:=p)
 exact q
 intro f
 have h:=dP j f
 refine Rq 12 q ?_
 obtain rfl:=Oi h
 exact WQ.nil ⟨[_,_,_,_,_,_,_,_,_,_,_,_],q,q,q⟩
 intro f
 have h:=dQ j f
 refine Rq 5 q ?_
 obtain⟨C,k,h⟩:=aa h
 refine WQ.qy (aj e23 q Zl q (ae k) (aR dE k) q) q q q (Rq 3 q (WQ.q (YieldsQ.fn q q q q q (f121_c) Lw) (bu q q q) q q (Rq 2 q ?_)))
 obtain rfl:=Oi h
 exact WQ.nil ⟨[_,_,_,_,_,_,_,_,_,_,_,_],q,q,q⟩
 refine Rq 1 q ?_
 apply WQ.or 4 (t:=56) (d:=60)
 exact q
 intro E
 exact Rq 4 q (WQ.nil ⟨[_,_,_,_],q,q,q⟩)
 exact Rq 4 q (WQ.nil ⟨[_,_,_,_],q,q,q⟩)
 refine Rq 1 q ?_
 apply WQ.or 4 (t:=61) (d:=65)
 exact q
 intro F
 exact Rq 4 q (WQ.nil ⟨[_,_,_,_],q,q,q⟩)
 exact Rq 4 q (WQ.nil ⟨[_,_,_,_],q,q,q⟩)
 refine WQ.nil (Rxc 1 q (Ci h q (λh=>?_) λh=>?_))
 exact Rcx 12 q (FA h)
 exact Rcl 6 q (WL.s0 (aO (λx:Int=>Value.int .i64 x) (λx:Bool=>AV.d (.b x)) a (.inr q) underlying176 underlying3 (KeyF.int .i64) q q q q) (Zw q) q (Rlx 7 q (WE.drop 1 (env':=[(1, .d (.pc (bE t0))),(3, .mp 0),(14, .l iV t0.text.loops),(15, .n (List.length t0.text.loops:Int)),(16, .n (IntKind.i64.wrap (e+1)))]) Sb q (d9 (re _ _ _ _) q) (Nat.zero_le _) (Fn2 h))))
 exact Rcx 4 q (En1 h)
 exact Rcx 6 q (FA h)

theorem f122_c{t0:bn}{a1:Int}{r:Bool}(h:f122 t0 a1=some r):Pu prog 122 [.ag (bE t0), .i .i64 a1] (.b r):=by
 unfold f122 at h
 refine fI func122 λ_ _=>?_
 refine Rcl 2 q (Bd q q (Zs _) q (Rll 7 q (wF Z4 (f112_c) Lw Z3 (Rl 1 q ?_))))
 obtain⟨e,f,h⟩:=aa h
 refine Gg 19 8 27 e f (λh=>?_) (λh=>?_) ?_
 refine Rl 4 q ?_
 obtain⟨k,a,h⟩:=aa h
 refine Zy (aj e23 q Zl q (ae a) (aR dE a) q) q q q (Rl 4 q ?_)
 obtain⟨g,j,h⟩:=aa h
 refine Gg 9 17 26 g j (λh=>?_) (λh=>?_) ?_
 exact On 9 9 h
 refine Rl 4 q ?_
 obtain⟨m,d,h⟩:=aa h
 exact Zy (aj e23 q Zl q (ae d) (aR dE d) q) q q q (On 4 9 h)
 exact On 1 11 h
 exact On 19 19 h
 exact Rlx 4 q (FA h)

theorem f75_c{t0:bn}{r:Bool}(h:f75 t0=some r):Pu prog 75 [.ag (bE t0)] (.b r):=by
 unfold f75 at h
 refine fI func75 λ_ _=>?_
 refine Rcl 2 q (Bd q q (Zs _) q (Rlc 8 q (Jn0 [] [] h (λf h=>?_) λh=>?_)))
 refine Rcl 5 q (Zq (ab jt t0.text.checks e36 q q Zl) q (Rlc 4 q (Ln2 (λe a=> [(1, .d (.pc (bE t0))),(3, .n e),(8, .l jt t0.text.checks),(9, .n (List.length t0.text.checks:Int)),(10, .n a)]) (λ_ _=> []) (f75_l1 t0 f) h (λ_ _ h=>by rw[f75_l1] at h;cases h) λn e a h=>?_)))
 rw[f75_l1] at h
 refine Rcc 6 q (Ci h q (λh=>?_) λh=>?_)
 refine Rcl 6 q (Ix h e36 s6 q Zl q q λg _ h=>(Rl 1 q (Al z192 q (sS Z6 s192 Z2 (Rll 10 q ?_)))))
 obtain⟨j,k,h⟩:=aa h
 refine Gg 6 18 24 j k (λh=>?_) (λh=>?_) ?_
 exact On 6 6 h
 refine Rl 3 q ?_
 obtain⟨p,m,h⟩:=aa h
 exact WL.fn q q q q (f122_c m) Lw (bu q q q) q q (On 2 6 h)
 refine Rl 1 q ?_
 refine OG 4 25 29 4 4 ?_
 refine Rl 1 q ?_
 refine OG 4 30 34 4 4 ?_
 refine Rlc 2 q (Ci h q (λh=>Rcx 12 q (FA h)) λh=>?_)
 exact Rcx 13 q (WE.drop 0 (env':=[(1, .d (.pc (bE t0))),(3, .n g.at_),(8, .l jt t0.text.checks),(9, .n (List.length t0.text.checks:Int)),(10, .n (IntKind.i64.wrap (a+1)))]) Sb q q (Nat.zero_le _) (Fn2 h))
 exact Rcx 4 q (En0 h)
 exact Rcx 6 q (FA h)

theorem f123_c(s0:lN)(a:ak→oB)(g1:FuncId)(e f:lD)(j:∀(y0:ak)(r:Bool),a y0=some r→Pu prog g1 (e++ [.ag (R45 y0)]++f) (.b r)){r:Int}(h:f123 s0 a=some r):Pu prog 123 [.sl (List.map E45 s0), .fnc (.func g1) e f] (.i .i64 r):=by
 unfold f123 at h
 refine fI func123 λ_ _=>?_
 refine WC.cast 1 q (fx _ _ _) (Rcc 5 q (Jn0 [] [] h (λk h=>?_) λh=>?_))
 refine Rcl 3 q (Zq (ab E45 s0 e23 q q Zl) q (Rlc 4 q (Ln1 (λg=> [(0, .l E45 s0),(1, .fn (.func g1) (List.map AV.d e) (List.map AV.d f)),(7, .n (List.length s0:Int)),(8, .n g)]) (λ_=> []) (f123_l1 s0 a k) h (λ_ h=>by rw[f123_l1] at h;cases h) λn g h=>?_)))
 rw[f123_l1] at h
 refine Rcc 6 q (Ci h q (λh=>?_) λh=>?_)
 refine Rcl 15 q (Ix h e23 dE q Zl q q λp _ h=>(Rl 1 q ?_))
 obtain⟨t,m,h⟩:=aa h
 refine WL.fn q q q q (j _ _ m) (jy Lw) (Zw q) q q (Rlc 2 q (Ci h q (λh=>?_) λh=>?_))
 exact Rcx 12 q (FA h)
 exact Rcx 7 q (Fn1 h)
 exact Rcx 4 q (En0 h)
 exact Rcx 6 q (FA h)

theorem f76_c(s0:lN)(e:ak→oB)(g1:FuncId)(a d:lD)(f:∀(y0:ak)(r:Bool),e y0=some r→Pu prog g1 (a++ [.ag (R45 y0)]++d) (.b r)){r:Bool}(h:f76 s0 e=some r):Pu prog 76 [.sl (List.map E45 s0), .fnc (.func g1) a d] (.b r):=by
 unfold f76 at h
 refine fI func76 λ_ _=>?_
 refine WC.cast 1 q (fx _ _ _) (Rcl 9 q ?_)
 obtain⟨j,g,h⟩:=aa h
 exact wF Z4 (f123_c _ _ g1 a d f g) ⟨Zl,(Le.fnc (Zs _) (Zs _)),Zt⟩ Z3 (Rlx 5 q (FA h))

theorem f156_c{o0:Int}{r:gg×Bool}(h:f156 o0=some r):Pu prog 156 [.i .u8 o0] (.tu [.ag (uA r.1), .b r.2]):=by
 unfold f156 at h
 refine fI func156 λ_ _=>?_
 refine Rcl 2 q (Al rW q (Rll 9 q ?_))
 refine OG 4 6 10 4 4 ?_
 refine Rlc 2 q (Ci h q (λh=>?_) λh=>?_)
 refine Rcl 2 q (Zq (aB p224 rW q q) q (sS Z6 pY Z2 (Rlx 5 q ?_)))
 obtain rfl:=Oi h
 exact aS (rs2 q (cz q q a224 pY q) (ap q)) (bd ⟨(aw (Zs _)),Zl,Zt⟩)
 refine Rcl 6 q ?_
 obtain⟨e,a,h⟩:=aa h
 refine Zq (tK (R:=uA) ie (λ_=>q) ar259 (congrArg (Option.map λps=>AV.d (.pc ps)) me) q q a) q (Rl 1 q (sS Z6 pY Z2 (Rlx 4 q ?_)))
 obtain rfl:=Oi h
 exact aS (rs2 q (cz q q a224 pY q) (ap q)) (bd ⟨(aw (Zs _)),Zl,Zt⟩)

theorem f176_c{s0:ByteArray}{r:List ByteArray}(h:f176 s0=some r):Pu prog 176 [.s s0] (.sl (List.map E9 r)):=by
 unfold f176 at h
 refine fI func176 λ_ _=>?_
 refine Rcc 20 q (Jn2 (λe setBits109=> [(0, .d (D.s s0)),(3, .n e),(5, .d (D.i .u8 setBits109))]) (λ_ _=> []) h (λG h=>?_) λe setBits109 h=>?_)
 refine Rcc 6 q (Ln4 (λm wasSpace116 setBits117 p=> [(0, .d (D.s s0)),(3, .n m),(4, .n wasSpace116),(5, .d (D.i .u8 setBits117)),(6, .n p)]) (λ_ _ _ _=> []) (f176_l1 s0 G) h (λ_ _ _ _ h=>by rw[f176_l1] at h;cases h) λn m wasSpace116 setBits117 p h=>?_)
 rw[f176_l1] at h
 refine Rcl 5 q (Zq (eQ underlying9 q q) q (Rlc 3 q (Ci h q (λh=>?_) λh=>?_)))
 refine Rcl 8 q ?_
 obtain⟨ad,H,h⟩:=aa h
 refine Zq (cM underlying9 q q H) q (Rll 7 q (Zq (tM q q q) q (Rll 6 q ?_)))
 obtain⟨ag,I,h⟩:=aa h
 exact Zq (oT (E:=D.i .u8) da pp q q q I) q (Rll 10 q (Zq (y_com q q) q (Zq (td q q q) q (Rlx 15 q (Fn4 h)))))
 exact Rcx 4 q (En2 h)
 refine Rcc 7 q (Ci h q (λh=>?_) λh=>?_)
 refine Rcc 1 q ?_
 cases h
 refine Rcl 5 q ?_
 replace h:=av h
 obtain⟨J,h⟩:=h
 refine WL.s ((NewOs.b (NewOs.cast (eF l261 z9 q (Nat.succ_pos _) q q J) (by exact fO (R:=E9) (z:=(ByteArray.empty:ByteArray)) q))).does) (Zw q) q q (Rlc 18 q (Jn1 (λt=> [(0, .d (D.s s0)),(9, .os 0 0),(10, .n 0),(12, .n t)]) (λ_=> [.os 9 1 0 (eM E9 (List.replicate (Int.toNat e) (ByteArray.empty:ByteArray)))]) h (λK h=>?_) λt h=>?_))
 refine Rcc 1 q (Ln1 (λw=> [(0, .d (D.s s0)),(9, .os 0 0),(10, .n 0),(12, .n w)]) (λ_=> [.os 9 1 0 (eM E9 (List.replicate (Int.toNat e) (ByteArray.empty:ByteArray)))]) (f176_l2 s0 K) h (λ_ h=>by rw[f176_l2] at h;cases h) λn w h=>?_)
 rw[f176_l2] at h
 refine Rcl 5 q (Zq (eQ underlying9 q q) q (Rl 2 q ?_))
 obtain⟨L,M,h⟩:=aa h
 refine Gg 7 46 53 L M (λh=>?_) (λh=>?_) ?_
 refine Rl 2 q ?_
 obtain⟨ax,N,h⟩:=aa h
 refine Zy (cM underlying9 q q N) q q q ?_
 obtain⟨a0,O,h⟩:=aa h
 exact Zy (oT (E:=D.i .u8) da pp q q q O) q q q (On 3 7 h)
 exact On 7 7 h
 exact Rlc 2 q (Ci h q (λh=>Rcx 9 q (Fn1 h)) λh=>Rcx 4 q (En1 h))
 refine Rcc 6 q (Jn3 (λg fieldStart135 _=> [(0, .d (D.s s0)),(9, .os 0 0),(10, .n g),(11, .n fieldStart135)]) (λ_ _ l136=> [.os 9 1 0 (eM E9 l136)]) h (λP h=>?_) λg fieldStart135 l136 h=>?_)
 refine Rcc 1 q (Ln4 (λa fieldStart143 x _=> [(0, .d (D.s s0)),(9, .os 0 0),(10, .n a),(11, .n fieldStart143),(12, .n x)]) (λ_ _ _ f=> [.os 9 1 0 (eM E9 f)]) (f176_l3 s0 P) h (λ_ _ _ _ h=>by rw[f176_l3] at h;cases h) λn a fieldStart143 x f h=>?_)
 rw[f176_l3] at h
 refine Rcl 5 q (Zq (eQ underlying9 q q) q (Rlc 3 q (Ci h q (λh=>?_) λh=>?_)))
 refine Rcl 8 q ?_
 obtain⟨a1,Q,h⟩:=aa h
 refine Zq (cM underlying9 q q Q) q ?_
 obtain⟨a6,S,h⟩:=aa h
 refine Zq (oT (E:=D.i .u8) da pp q q q S) q (Rlc 4 q (Ci h q (λh=>?_) λh=>?_))
 exact Rcx 10 q (Fn4 h)
 refine Rcl 9 q ?_
 obtain⟨j,T,h⟩:=aa h
 refine Zq (tL underlying9 q q q T) q ?_
 obtain⟨a7,y,h⟩:=aa h
 refine Zq (n6 sQ q q q y) q (WL.s0 (dl (R:=E9) (k:=1) (i:=a) (fo:=0) j q q q q Zl q q q s9 q (λ_=>q) y q q) (Zw q) q (Rlc 16 q (Jn1 (λA=> [(0, .d (D.s s0)),(9, .os 0 0),(10, .n (IntKind.i64.wrap (a+1))),(12, .n A)]) (λ_=> [.os 9 1 0 (eM E9 (List.set f (Int.toNat a) j))]) h (λU h=>?_) λA h=>?_)))
 refine Rcc 1 q (Ln1 (λB=> [(0, .d (D.s s0)),(9, .os 0 0),(10, .n (IntKind.i64.wrap (a+1))),(12, .n B)]) (λ_=> [.os 9 1 0 (eM E9 (List.set f (Int.toNat a) j))]) (f176_l4 s0 U) h (λ_ h=>by rw[f176_l4] at h;cases h) λna B h=>?_)
 rw[f176_l4] at h
 refine Rcl 5 q (Zq (eQ underlying9 q q) q (Rl 2 q ?_))
 obtain⟨V,W,h⟩:=aa h
 refine Gg 7 84 91 V W (λh=>?_) (λh=>?_) ?_
 refine Rl 2 q ?_
 obtain⟨a8,X,h⟩:=aa h
 refine Zy (cM underlying9 q q X) q q q ?_
 obtain⟨a9,Y,h⟩:=aa h
 exact Zy (oT (E:=D.i .u8) da pp q q q Y) q q q (On 3 7 h)
 exact On 7 7 h
 exact Rlc 2 q (Ci h q (λh=>Rcx 9 q (Fn1 h)) λh=>Rcx 4 q (En1 h))
 exact Rcx 5 q (Fn4 h)
 exact Rcx 4 q (En3 h)
 refine Jn1 (λ_=> [(9, .os 0 0)]) (λC=> [.os 9 1 0 (eM E9 C)]) h (λ_ h=>?_) (λC h=>?_)
 refine Rcl 4 q (Zq (eQ underlying9 q q) q (Rlc 3 q (Ci h q (λh=>?_) λh=>?_)))
 refine Rcl 5 q ?_
 obtain⟨s164,Z,h⟩:=aa h
 refine Zq (rY underlying9 q q Z) q ?_
 obtain⟨a',F,h⟩:=aa h
 exact Zq (n6 sQ q q q F) q (WL.s0 (dl (R:=E9) (k:=1) (i:=g) (fo:=0) s164 q q q q Zl q q q s9 q (λ_=>q) F q q) (Zw q) q (Rlx 1 q (En1 h)))
 exact Rcx 1 q (En1 h)
 refine Rcx 7 q ?_
 exact WE.freezeX [9,105,2] [] 0 _ q (bO tG _) ⟨q,q,q,Zt⟩ Zt (FA h)

theorem f179_c{a:Int}:Pu prog 179 [.i .u8 a] (.tu [.i .i64 (f179 a).1, .i .i64 (f179 a).2]):=by
 generalize h:f179 a=r
 unfold f179 at h
 refine fI func179 λ_ _=>?_
 refine Rcc 19 q (Ci h q (λh=>Rcx 9 q (FB h)) λh=>?_)
 refine Rcc 6 q (Ci h q (λh=>Rcx 9 q (FB h)) λh=>?_)
 refine Rcc 6 q (Ci h q (λh=>Rcx 9 q (FB h)) λh=>?_)
 refine Rcc 6 q (Ci h q (λh=>Rcx 9 q (FB h)) λh=>?_)
 refine Rcc 6 q (Ci h q (λh=>Rcx 9 q (FB h)) λh=>?_)
 refine Rcc 6 q (Ci h q (λh=>Rcx 9 q (FB h)) λh=>?_)
 refine Rcc 6 q (Ci h q (λh=>Rcx 9 q (FB h)) λh=>?_)
 refine Rcc 6 q (Ci h q (λh=>Rcx 9 q (FB h)) λh=>?_)
 refine Rcc 6 q (Ci h q (λh=>Rcx 9 q (FB h)) λh=>?_)
 refine Rcc 6 q (Ci h q (λh=>Rcx 9 q (FB h)) λh=>?_)
 refine Rcc 6 q (Ci h q (λh=>Rcx 9 q (FB h)) λh=>?_)
 exact Rcc 6 q (Ci h q (λh=>Rcx 9 q (FB h)) λh=>Rcx 10 q (FB h))

theorem f124_c{x0:ak}{r:Bool}(h:f124 x0=some r):Pu prog 124 [.ag (R45 x0)] (.b r):=by
 unfold f124 at h
 refine fI func124 λ_ _=>?_
 refine Rcl 2 q (Bd q q (Zs _) q (Al z4 q (Rll 7 q ?_)))
 obtain⟨e,gs,h⟩:=aa h
 refine wF Z4 (f156_c gs) Lw Z3 (Rl 3 q (Al rW q (sS Z6 pY Z2 (Rll 8 q ?_))))
 apply WL.or 11 (t:=16) (d:=27)
 exact q
 intro i7
 refine Rl 4 q ?_
 refine AG 6 20 26 6 6 ?_
 exact Rn 1 6
 exact Rn 11 11
 refine Rlc 2 q (Ci h q (λh=>?_) λh=>?_)
 refine Rcl 2 q (sS Z6 s4 Z2 (Rlx 4 q ?_))
 obtain rfl:=Oi h
 exact aS (rs1 q (fb q q a4 q)) Zl
 refine Rcl 9 q ?_
 refine AG 5 31 36 5 5 ?_
 refine Rl 1 q ?_
 refine AG 4 37 41 4 4 ?_
 refine Rlc 2 q (Ci h q (λh=>?_) λh=>?_)
 refine Rcl 2 q (sS Z6 s4 Z2 (Rlx 4 q ?_))
 obtain rfl:=Oi h
 exact aS (rs1 q (fb q q a4 q)) Zl
 refine Rcl 5 q (Al z45 q (sS Z6 s45 Z2 (Rlc 2 q (Jn8 (λ_ _ _ _ _ _ _ _=> [(1, .d (.pc (R45 x0))),(2, .pt 0 0),(5, .pt 2 0)]) (λL M N O P Q f1 f2=> [.row 4 [.d (D.b false)], .row 224 [.d (D.s e.1.name), .d (D.s e.1.fields)], .row 45 [.d (D.i .u8 x0.op), .n L, .n M, .n N, .n O, .n P, .n Q], .row 230 [.pt 2 0], .z, .row 224 [.d (D.s f1), .d (D.s f2)]]) h (λ_ h=>?_) λL M N O P Q f1 f2 h=>?_))))
 refine Rcl 2 q ?_
 obtain⟨gx,g0,h⟩:=ah h
 refine WL.inl (us:=[.pt 2 0]) (λrv st'=>(gx ()=some r∧Le rv (.fn (.func 175) [] [.pt 3 0])∧SLe st' [.row 4 [.d (D.b false)], .row 224 [.d (D.s e.1.name), .d (D.s e.1.fields)], .row 45 [.d (D.i .u8 x0.op), .n x0.d, .n x0.a, .n x0.b, .n x0.n, .n x0.m, .n x0.to], .row 230 [.pt 2 0]])) q q q q q ?_ (Zw q) q q ?_
 refine cI func157 λ_ _ _ _=>?_
 exact Rcl 2 q (Bx q q q (Rlx 10 q (af (rs1 q (ap q)) ⟨h,Zl,⟨Zp,Zp,Zp,Zp,Zt⟩⟩)))
 rintro rv st1 ⟨h,hr,hst⟩
 subst g0
 dsimp only at h
 refine WL.cast 43 q hr (WL.weak hst (Zn (Rcc 1 q ?_)))
 obtain⟨f3,g1,h⟩:=ah h
 obtain⟨f4,g2,h⟩:=ah h
 obtain⟨f5,g3,h⟩:=ah h
 obtain⟨f6,g4,h⟩:=ah h
 obtain⟨f7,g5,h⟩:=ah h
 obtain⟨gl,g6,h⟩:=ah h
 obtain⟨gm,g7,h⟩:=ah h
 refine qE (us:=[.yl 4, .pt 3 0]) [2] 4 (λg rv st'=>(∃(R:Int),∃(S:Int),∃(T:Int),∃(U:Int),∃(V:Int),∃(W:Int),∃(X:ByteArray),∃(Y:ByteArray),∃(Z:Int),∃(ad:Int),∃(ax:Int),∃(a0:Int),f3 R S T U V W X Y Z ad ax a0=some r∧SLe st' [.row 4 [.d (D.b false)], .row 224 [.d (D.s e.1.name), .d (D.s e.1.fields)], .row 45 [.d (D.i .u8 x0.op), .n R, .n S, .n T, .n U, .n V, .n W], .row 230 [.pt 2 0], .lp g [.pt 0 0] .done (some .ret), .row 224 [.d (D.s X), .d (D.s Y)], .row 233 [.fn (.func 210) [] [.pt 7 0], .fn (.func 211) [] [.pt 7 0], .n Z, .n ad], .row 264 [.pt 2 1], .row 233 [.fn (.func 210) [] [.pt 7 0], .fn (.func 211) [] [.pt 7 0], .n 0, .n 0], .row 233 [.fn (.func 210) [] [.pt 7 0], .fn (.func 211) [] [.pt 7 0], .n ax, .n a0]])∨(∃(a1:Int),∃(a6:Int),∃(a7:Int),∃(a8:Int),∃(a9:Int),∃(a':Int),∃(bb:ByteArray),∃(bk:ByteArray),∃(bo:Int),∃(bs:Int),∃(b0:Int),∃(b1:Int),f4 a1 a6 a7 a8 a9 a' bb bk bo bs b0 b1=some r∧SLe st' [.row 4 [.d (D.b false)], .row 224 [.d (D.s e.1.name), .d (D.s e.1.fields)], .row 45 [.d (D.i .u8 x0.op), .n a1, .n a6, .n a7, .n a8, .n a9, .n a'], .row 230 [.pt 2 0], .lp g [.pt 0 0] .done (some .ret), .row 224 [.d (D.s bb), .d (D.s bk)], .row 233 [.fn (.func 210) [] [.pt 7 0], .fn (.func 211) [] [.pt 7 0], .n bo, .n bs], .row 264 [.pt 2 2], .row 233 [.fn (.func 210) [] [.pt 7 0], .fn (.func 211) [] [.pt 7 0], .n 0, .n 0], .row 233 [.fn (.func 210) [] [.pt 7 0], .fn (.func 211) [] [.pt 7 0], .n b0, .n b1]])∨(∃(b2:Int),∃(b3:Int),∃(b4:Int),∃(b5:Int),∃(b6:Int),∃(b7:Int),∃(b8:ByteArray),∃(b9:ByteArray),∃(b':Int),∃(ca:Int),∃(cb:Int),∃(cc:Int),f5 b2 b3 b4 b5 b6 b7 b8 b9 b' ca cb cc=some r∧SLe st' [.row 4 [.d (D.b false)], .row 224 [.d (D.s e.1.name), .d (D.s e.1.fields)], .row 45 [.d (D.i .u8 x0.op), .n b2, .n b3, .n b4, .n b5, .n b6, .n b7], .row 230 [.pt 2 0], .lp g [.pt 0 0] .done (some .ret), .row 224 [.d (D.s b8), .d (D.s b9)], .row 233 [.fn (.func 210) [] [.pt 7 0], .fn (.func 211) [] [.pt 7 0], .n b', .n ca], .row 264 [.pt 2 3], .row 233 [.fn (.func 210) [] [.pt 7 0], .fn (.func 211) [] [.pt 7 0], .n 0, .n 0], .row 233 [.fn (.func 210) [] [.pt 7 0], .fn (.func 211) [] [.pt 7 0], .n cb, .n cc]])∨(∃(cd:Int),∃(ci:Int),∃(cj:Int),∃(cl:Int),∃(cn:Int),∃(cp:Int),∃(cx:ByteArray),∃(c0:ByteArray),∃(c1:Int),∃(c2:Int),∃(c3:Int),∃(c4:Int),f6 cd ci cj cl cn cp cx c0 c1 c2 c3 c4=some r∧SLe st' [.row 4 [.d (D.b false)], .row 224 [.d (D.s e.1.name), .d (D.s e.1.fields)], .row 45 [.d (D.i .u8 x0.op), .n cd, .n ci, .n cj, .n cl, .n cn, .n cp], .row 230 [.pt 2 0], .lp g [.pt 0 0] .done (some .ret), .row 224 [.d (D.s cx), .d (D.s c0)], .row 233 [.fn (.func 212) [] [.pt 7 0], .fn (.func 213) [] [.pt 7 0], .n c1, .n c2], .row 128 [.pt 2 4], .row 233 [.fn (.func 212) [] [.pt 7 0], .fn (.func 213) [] [.pt 7 0], .n 0, .n 0], .row 233 [.fn (.func 212) [] [.pt 7 0], .fn (.func 213) [] [.pt 7 0], .n c3, .n c4]])∨(∃(c5:Int),∃(c6:Int),∃(c7:Int),∃(c':Int),∃(dd:Int),∃(df:Int),∃(ds:ByteArray),∃(dA:ByteArray),∃(dS:Int),∃(d0:Int),∃(d1:Int),∃(d2:Int),f7 c5 c6 c7 c' dd df ds dA dS d0 d1 d2=some r∧SLe st' [.row 4 [.d (D.b false)], .row 224 [.d (D.s e.1.name), .d (D.s e.1.fields)], .row 45 [.d (D.i .u8 x0.op), .n c5, .n c6, .n c7, .n c', .n dd, .n df], .row 230 [.pt 2 0], .lp g [.pt 0 0] .done (some .ret), .row 224 [.d (D.s ds), .d (D.s dA)], .row 233 [.fn (.func 212) [] [.pt 7 0], .fn (.func 213) [] [.pt 7 0], .n dS, .n d0], .row 128 [.pt 2 5], .row 233 [.fn (.func 212) [] [.pt 7 0], .fn (.func 213) [] [.pt 7 0], .n 0, .n 0], .row 233 [.fn (.func 212) [] [.pt 7 0], .fn (.func 213) [] [.pt 7 0], .n d1, .n d2]])∨(∃(d3:Int),∃(d':Int),∃(ea:Int),∃(eb:Int),∃(ei:Int),∃(el:Int),∃(es:ByteArray),∃(et:ByteArray),∃(ex:Int),∃(ey:Int),∃(e0:Int),∃(e1:Int),gl d3 d' ea eb ei el es et ex ey e0 e1=some r∧SLe st' [.row 4 [.d (D.b false)], .row 224 [.d (D.s e.1.name), .d (D.s e.1.fields)], .row 45 [.d (D.i .u8 x0.op), .n d3, .n d', .n ea, .n eb, .n ei, .n el], .row 230 [.pt 2 0], .lp g [.pt 0 0] .done (some .ret), .row 224 [.d (D.s es), .d (D.s et)], .row 233 [.fn (.func 210) [] [.pt 7 0], .fn (.func 211) [] [.pt 7 0], .n ex, .n ey], .row 264 [.pt 2 6], .row 233 [.fn (.func 210) [] [.pt 7 0], .fn (.func 211) [] [.pt 7 0], .n 0, .n 0], .row 233 [.fn (.func 210) [] [.pt 7 0], .fn (.func 211) [] [.pt 7 0], .n e0, .n e1]])∨(∃(e2:Int),∃(e3:Int),∃(e4:Int),∃(e5:Int),∃(e6:Int),∃(e7:Int),∃(e8:ByteArray),∃(e':ByteArray),gm e2 e3 e4 e5 e6 e7 e8 e'=some r∧SLe st' [.row 4 [.d (D.b false)], .row 224 [.d (D.s e.1.name), .d (D.s e.1.fields)], .row 45 [.d (D.i .u8 x0.op), .n e2, .n e3, .n e4, .n e5, .n e6, .n e7], .row 230 [.pt 2 0], .lp g [.pt 0 0] .ready none, .row 224 [.d (D.s e8), .d (D.s e')]])) q q q q q (λg J=>?_) ?_
 refine cI func175 λ_ _ _ K=>?_
 refine Rcl 6 q ?_
 obtain⟨f,g8,h⟩:=aa h
 refine wF Z4 (f156_c g8) Lw Z3 (Rl 3 q (Al rW q (sS Z6 pY Z2 (Rll 7 q ?_))))
 obtain⟨H,g9,h⟩:=aa h
 refine wF Z4 (f176_c g9) Lw Z3 (Zq (ab E9 H sQ q q Zl) q (Rlc 4 q (Ln7 (λI _ _ _ _ _ _=> [(0, .yl 4),(1, .pt 3 0),(18, .l E9 H),(19, .n (List.length H:Int)),(20, .n I)]) (λ_ j k p w x y=> [.row 4 [.d (D.b false)], .row 224 [.d (D.s e.1.name), .d (D.s e.1.fields)], .row 45 [.d (D.i .u8 x0.op), .n j, .n k, .n p, .n w, .n x, .n y], .row 230 [.pt 2 0], .lp g [.pt 0 0] .ready none, .row 224 [.d (D.s f.1.name), .d (D.s f.1.fields)]]) (f124_l1 f3 f4 f5 f6 f7 gl gm f H) h (λ_ _ _ _ _ _ _ h=>by rw[f124_l1] at h;cases h) λn I j k p w x y h=>?_)))
 rw[f124_l1] at h
 refine Rcc 6 q (Ci h q (λh=>?_) λh=>?_)
 refine Rcl 6 q (Ix h sQ tG q Zl q q λi8 _ h=>(Rll 6 q (Al e9 q (Rll 6 q ?_))))
 obtain⟨i9,g',h⟩:=aa h
 refine Zq (cM underlying9 q q g') q (Rlc 9 q (Ci h q (λh=>?_) λh=>?_))
 refine Rcl 4 q ?_
 obtain⟨ha,hb,h⟩:=ah h
 refine WL.inl (us:=[.pt 2 1]) (λrv st'=>(ha ()=some r∧Le rv (.ag [.fn (.func 210) [] [.pt 7 0], .fn (.func 211) [] [.pt 7 0], .n 0, .n 0])∧SLe st' [.row 4 [.d (D.b false)], .row 224 [.d (D.s e.1.name), .d (D.s e.1.fields)], .row 45 [.d (D.i .u8 x0.op), .n j, .n k, .n p, .n w, .n x, .n y], .row 230 [.pt 2 0], .lp g [.pt 0 0] .ready none, .row 224 [.d (D.s f.1.name), .d (D.s f.1.fields)], .row 233 [.d (.v .nilFunc), .d (.v .nilFunc), .n 0, .n 0], .row 264 [.pt 2 1], .row 233 [.fn (.func 210) [] [.pt 7 0], .fn (.func 211) [] [.pt 7 0], .n 0, .n 0]])) q q q q q ?_ (Zw q) q q ?_
 refine cI func177 λ_ _ _ _=>?_
 exact Rcl 2 q (Bx q q q (Al e9 q (Rll 6 q (Zq (aB p7 e9 q q) q (sS Z6 d5 Z2 (Rlx 3 q (af (rs1 q (cz q q qi d5 q)) ⟨h,Zl,⟨Zp,Zp,Zp,Zp,⟨q,Zs _,q,q⟩,Zp,Zp,Zp,Zp,Zt⟩⟩)))))))
 rintro rv st1 ⟨h,hr,hst⟩
 subst hb
 dsimp only at h
 refine WL.cast 35 q hr (WL.weak hst (sS Z6 d5 Z2 (WL.nil (Rxl 5 q ?_))))
 obtain⟨A,hc,h⟩:=aa h
 refine Zq (cM underlying9 q q hc) q (wF Z4 (f179_c) Lw Z3 (Rl 4 q (sS Z6 s2 Z2 (Rl 1 q (sS Z6 s2 Z2 (Rll 6 q ?_))))))
 obtain⟨hd,he,h⟩:=ah h
 obtain⟨hf,hg,h⟩:=ah h
 refine WL.yield (env0:=[(44, .ag [.fn (.func 210) [] [.pt 7 0], .fn (.func 211) [] [.pt 7 0], .n ((f179 A).1), .n ((f179 A).2)]),(2, .pt 0 0)]) (λrv st'=>(hd ()=some r∧rv= .d (.v (.bool false))∧SLe st' [.row 4 [.d (D.b false)], .row 224 [.d (D.s e.1.name), .d (D.s e.1.fields)], .row 45 [.d (D.i .u8 x0.op), .n j, .n k, .n p, .n w, .n x, .n y], .row 230 [.pt 2 0], .lp g [.pt 0 0] .done (some .ret), .row 224 [.d (D.s f.1.name), .d (D.s f.1.fields)], .row 233 [.fn (.func 210) [] [.pt 7 0], .fn (.func 211) [] [.pt 7 0], .n ((f179 A).1), .n ((f179 A).2)], .row 264 [.pt 2 1], .row 233 [.fn (.func 210) [] [.pt 7 0], .fn (.func 211) [] [.pt 7 0], .n 0, .n 0], .row 233 [.fn (.func 210) [] [.pt 7 0], .fn (.func 211) [] [.pt 7 0], .n ((f179 A).1), .n ((f179 A).2)]])∨(hf ()=some r∧rv= .d (.v (.bool true))∧SLe st' [.row 4 [.d (D.b false)], .row 224 [.d (D.s e.1.name), .d (D.s e.1.fields)], .row 45 [.d (D.i .u8 x0.op), .n 0, .n k, .n p, .n w, .n x, .n y], .row 230 [.pt 2 0], .lp g [.pt 0 0] .ready none, .row 224 [.d (D.s f.1.name), .d (D.s f.1.fields)], .row 233 [.fn (.func 210) [] [.pt 7 0], .fn (.func 211) [] [.pt 7 0], .n ((f179 A).1), .n ((f179 A).2)], .row 264 [.pt 2 1], .row 233 [.fn (.func 210) [] [.pt 7 0], .fn (.func 211) [] [.pt 7 0], .n 0, .n 0], .row 233 [.fn (.func 210) [] [.pt 7 0], .fn (.func 211) [] [.pt 7 0], .n ((f179 A).1), .n ((f179 A).2)]])) J q q q q q q q (λee hn fo i'=>?_) (Zw q) q q ?_
 obtain⟨em,eφ,ew,en,er⟩:=ee
 subst hn
 refine Rcl 1 q (Al e9 q (sS Z6 d5 Z2 (Rlx 1 q (iD fo q (Rcl 6 q ?_)))))
 obtain⟨hh,hi,h⟩:=ah h
 refine WL.inl (us:=[.pt 7 0]) (λrv st'=>(hh ()=some r∧Le rv (.n j)∧SLe st' [.row 4 [.d (D.b false)], .row 224 [.d (D.s e.1.name), .d (D.s e.1.fields)], .row 45 [.d (D.i .u8 x0.op), .n j, .n k, .n p, .n w, .n x, .n y], .row 230 [.pt 2 0], .lp g [.pt 0 0] .busy none, .row 224 [.d (D.s f.1.name), .d (D.s f.1.fields)], .row 233 [.fn (.func 210) [] [.pt 7 0], .fn (.func 211) [] [.pt 7 0], .n ((f179 A).1), .n ((f179 A).2)], .row 264 [.pt 2 1], .row 233 [.fn (.func 210) [] [.pt 7 0], .fn (.func 211) [] [.pt 7 0], .n 0, .n 0], .row 233 [.fn (.func 210) [] [.pt 7 0], .fn (.func 211) [] [.pt 7 0], .n ((f179 A).1), .n ((f179 A).2)]])) q q q q q ?_ (Zw q) q q ?_
 refine cI func210 λ_ _ _ _=>?_
 exact Rcx 14 q (af (rs1 q (ap q)) ⟨h,Zl,⟨Zp,Zp,Zp,Zp,⟨q,Zs _,q,q⟩,Zp,Zp,Zp,Zp,Zp,Zt⟩⟩)
 rintro rv st1 ⟨h,hr,hst⟩
 subst hi
 dsimp only at h
 refine WL.cast 47 q hr (WL.weak hst (Rl 1 q (Zn (Rcl 7 q ?_))))
 refine OG 5 52 57 5 5 ?_
 refine Rlc 2 q (Ci h q (λh=>?_) λh=>?_)
 exact Rcl 2 q (sS Z6 s4 Z2 (Rlx 5 q (dj fo q (.inl ⟨h,q,⟨Zp,Zp,Zp,Zp,⟨q,Zs _,q,q⟩,Zp,Zp,Zp,Zp,Zp,Zt⟩⟩))))
 refine Rcl 5 q ?_
 obtain⟨hj,hk,h⟩:=ah h
 refine WL.inl (us:=[.n 0, .pt 7 0]) (λrv st'=>(hj ()=some r∧Le rv (.tu [])∧SLe st' [.row 4 [.d (D.b false)], .row 224 [.d (D.s e.1.name), .d (D.s e.1.fields)], .row 45 [.d (D.i .u8 x0.op), .n 0, .n k, .n p, .n w, .n x, .n y], .row 230 [.pt 2 0], .lp g [.pt 0 0] .busy none, .row 224 [.d (D.s f.1.name), .d (D.s f.1.fields)], .row 233 [.fn (.func 210) [] [.pt 7 0], .fn (.func 211) [] [.pt 7 0], .n ((f179 A).1), .n ((f179 A).2)], .row 264 [.pt 2 1], .row 233 [.fn (.func 210) [] [.pt 7 0], .fn (.func 211) [] [.pt 7 0], .n 0, .n 0], .row 233 [.fn (.func 210) [] [.pt 7 0], .fn (.func 211) [] [.pt 7 0], .n ((f179 A).1), .n ((f179 A).2)]])) q q q q q ?_ (Zw q) q q ?_
 refine cI func211 λ_ _ _ _=>?_
 exact Rcl 4 q (sS Z6 s3 Z2 (Rlx 1 q (cG (af (bT q) ⟨h,Zl,⟨Zp,Zp,Zp,Zp,⟨q,Zs _,q,q⟩,Zp,Zp,Zp,Zp,Zp,Zt⟩⟩))))
 rintro rv st1 ⟨h,hr,hst⟩
 subst hk
 dsimp only at h
 exact WL.cast 60 q hr (WL.weak hst (WL.nil (Rxx 1 q (gi fo q (.inr (⟨h,q,⟨Zp,Zp,Zp,Zp,⟨q,Zs _,q,q⟩,Zp,Zp,Zp,Zp,Zp,Zt⟩⟩))))))
 rintro rv st1 (⟨h,rfl,hst⟩|⟨h,rfl,hst⟩)
 subst he
 dsimp only at h
 exact WL.weak hst (Rl 1 q (Zn (bF q (Rcx 5 q (af (bT q) (.inl ⟨j,k,p,w,x,y,f.1.name,f.1.fields,((f179 A).1),((f179 A).2),((f179 A).1),((f179 A).2),h,⟨Zp,Zp,Zp,Zp,⟨q,Zs _,q,q⟩,Zp,Zp,Zp,Zp,Zp,Zt⟩⟩))))))
 subst hg
 dsimp only at h
 exact WL.weak hst (Rl 1 q (Zn (aW q (Rcx 7 q (WE.drop 6 (env':=[(0, .yl 4),(1, .pt 3 0),(18, .l E9 H),(19, .n (List.length H:Int)),(20, .n (IntKind.i64.wrap (I+1)))]) Sb q q (Nat.le_trans (Nat.le_of_eq K) (nbT q)) (Fn7 h))))))
 refine Rcc 6 q (Ci h q (λh=>?_) λh=>?_)
 refine Rcl 4 q ?_
 obtain⟨hl,hm,h⟩:=ah h
 refine WL.inl (us:=[.pt 2 2]) (λrv st'=>(hl ()=some r∧Le rv (.ag [.fn (.func 210) [] [.pt 7 0], .fn (.func 211) [] [.pt 7 0], .n 0, .n 0])∧SLe st' [.row 4 [.d (D.b false)], .row 224 [.d (D.s e.1.name), .d (D.s e.1.fields)], .row 45 [.d (D.i .u8 x0.op), .n j, .n k, .n p, .n w, .n x, .n y], .row 230 [.pt 2 0], .lp g [.pt 0 0] .ready none, .row 224 [.d (D.s f.1.name), .d (D.s f.1.fields)], .row 233 [.d (.v .nilFunc), .d (.v .nilFunc), .n 0, .n 0], .row 264 [.pt 2 2], .row 233 [.fn (.func 210) [] [.pt 7 0], .fn (.func 211) [] [.pt 7 0], .n 0, .n 0]])) q q q q q ?_ (Zw q) q q ?_
 refine cI func177 λ_ _ _ _=>?_
 exact Rcl 2 q (Bx q q q (Al e9 q (Rll 6 q (Zq (aB p7 e9 q q) q (sS Z6 d5 Z2 (Rlx 3 q (af (rs1 q (cz q q qi d5 q)) ⟨h,Zl,⟨Zp,Zp,Zp,Zp,⟨q,Zs _,q,q⟩,Zp,Zp,Zp,Zp,Zt⟩⟩)))))))
 rintro rv st1 ⟨h,hr,hst⟩
 subst hm
 dsimp only at h
 refine WL.cast 41 q hr (WL.weak hst (sS Z6 d5 Z2 (WL.nil (Rxl 5 q ?_))))
 obtain⟨B,ho,h⟩:=aa h
 refine Zq (cM underlying9 q q ho) q (wF Z4 (f179_c) Lw Z3 (Rl 4 q (sS Z6 s2 Z2 (Rl 1 q (sS Z6 s2 Z2 (Rll 6 q ?_))))))
 obtain⟨hp,hq,h⟩:=ah h
 obtain⟨hs,ht,h⟩:=ah h
 refine WL.yield (env0:=[(44, .ag [.fn (.func 210) [] [.pt 7 0], .fn (.func 211) [] [.pt 7 0], .n ((f179 B).1), .n ((f179 B).2)]),(2, .pt 0 0)]) (λrv st'=>(hp ()=some r∧rv= .d (.v (.bool false))∧SLe st' [.row 4 [.d (D.b false)], .row 224 [.d (D.s e.1.name), .d (D.s e.1.fields)], .row 45 [.d (D.i .u8 x0.op), .n j, .n k, .n p, .n w, .n x, .n y], .row 230 [.pt 2 0], .lp g [.pt 0 0] .done (some .ret), .row 224 [.d (D.s f.1.name), .d (D.s f.1.fields)], .row 233 [.fn (.func 210) [] [.pt 7 0], .fn (.func 211) [] [.pt 7 0], .n ((f179 B).1), .n ((f179 B).2)], .row 264 [.pt 2 2], .row 233 [.fn (.func 210) [] [.pt 7 0], .fn (.func 211) [] [.pt 7 0], .n 0, .n 0], .row 233 [.fn (.func 210) [] [.pt 7 0], .fn (.func 211) [] [.pt 7 0], .n ((f179 B).1), .n ((f179 B).2)]])∨(hs ()=some r∧rv= .d (.v (.bool true))∧SLe st' [.row 4 [.d (D.b false)], .row 224 [.d (D.s e.1.name), .d (D.s e.1.fields)], .row 45 [.d (D.i .u8 x0.op), .n j, .n 0, .n p, .n w, .n x, .n y], .row 230 [.pt 2 0], .lp g [.pt 0 0] .ready none, .row 224 [.d (D.s f.1.name), .d (D.s f.1.fields)], .row 233 [.fn (.func 210) [] [.pt 7 0], .fn (.func 211) [] [.pt 7 0], .n ((f179 B).1), .n ((f179 B).2)], .row 264 [.pt 2 2], .row 233 [.fn (.func 210) [] [.pt 7 0], .fn (.func 211) [] [.pt 7 0], .n 0, .n 0], .row 233 [.fn (.func 210) [] [.pt 7 0], .fn (.func 211) [] [.pt 7 0], .n ((f179 B).1), .n ((f179 B).2)]])) J q q q q q q q (λee hn fr js=>?_) (Zw q) q q ?_
 obtain⟨em,eφ,ew,en,er⟩:=ee
 subst hn
 refine Rcl 1 q (Al e9 q (sS Z6 d5 Z2 (Rlx 1 q (iD fr q (Rcl 6 q ?_)))))
 obtain⟨hu,hv,h⟩:=ah h
 refine WL.inl (us:=[.pt 7 0]) (λrv st'=>(hu ()=some r∧Le rv (.n k)∧SLe st' [.row 4 [.d (D.b false)], .row 224 [.d (D.s e.1.name), .d (D.s e.1.fields)], .row 45 [.d (D.i .u8 x0.op), .n j, .n k, .n p, .n w, .n x, .n y], .row 230 [.pt 2 0], .lp g [.pt 0 0] .busy none, .row 224 [.d (D.s f.1.name), .d (D.s f.1.fields)], .row 233 [.fn (.func 210) [] [.pt 7 0], .fn (.func 211) [] [.pt 7 0], .n ((f179 B).1), .n ((f179 B).2)], .row 264 [.pt 2 2], .row 233 [.fn (.func 210) [] [.pt 7 0], .fn (.func 211) [] [.pt 7 0], .n 0, .n 0], .row 233 [.fn (.func 210) [] [.pt 7 0], .fn (.func 211) [] [.pt 7 0], .n ((f179 B).1), .n ((f179 B).2)]])) q q q q q ?_ (Zw q) q q ?_
 refine cI func210 λ_ _ _ _=>?_
 exact Rcx 14 q (af (rs1 q (ap q)) ⟨h,Zl,⟨Zp,Zp,Zp,Zp,⟨q,Zs _,q,q⟩,Zp,Zp,Zp,Zp,Zp,Zt⟩⟩)
 rintro rv st1 ⟨h,hr,hst⟩
 subst hv
 dsimp only at h
 refine WL.cast 47 q hr (WL.weak hst (Rl 1 q (Zn (Rcl 7 q ?_))))
 refine OG 5 52 57 5 5 ?_
 refine Rlc 2 q (Ci h q (λh=>?_) λh=>?_)
 exact Rcl 2 q (sS Z6 s4 Z2 (Rlx 5 q (dj fr q (.inl ⟨h,q,⟨Zp,Zp,Zp,Zp,⟨q,Zs _,q,q⟩,Zp,Zp,Zp,Zp,Zp,Zt⟩⟩))))
 refine Rcl 5 q ?_
 obtain⟨hw,hx,h⟩:=ah h
 refine WL.inl (us:=[.n 0, .pt 7 0]) (λrv st'=>(hw ()=some r∧Le rv (.tu [])∧SLe st' [.row 4 [.d (D.b false)], .row 224 [.d (D.s e.1.name), .d (D.s e.1.fields)], .row 45 [.d (D.i .u8 x0.op), .n j, .n 0, .n p, .n w, .n x, .n y], .row 230 [.pt 2 0], .lp g [.pt 0 0] .busy none, .row 224 [.d (D.s f.1.name), .d (D.s f.1.fields)], .row 233 [.fn (.func 210) [] [.pt 7 0], .fn (.func 211) [] [.pt 7 0], .n ((f179 B).1), .n ((f179 B).2)], .row 264 [.pt 2 2], .row 233 [.fn (.func 210) [] [.pt 7 0], .fn (.func 211) [] [.pt 7 0], .n 0, .n 0], .row 233 [.fn (.func 210) [] [.pt 7 0], .fn (.func 211) [] [.pt 7 0], .n ((f179 B).1), .n ((f179 B).2)]])) q q q q q ?_ (Zw q) q q ?_
 refine cI func211 λ_ _ _ _=>?_
 exact Rcl 4 q (sS Z6 s3 Z2 (Rlx 1 q (cG (af (bT q) ⟨h,Zl,⟨Zp,Zp,Zp,Zp,⟨q,Zs _,q,q⟩,Zp,Zp,Zp,Zp,Zp,Zt⟩⟩))))
 rintro rv st1 ⟨h,hr,hst⟩
 subst hx
 dsimp only at h
 exact WL.cast 60 q hr (WL.weak hst (WL.nil (Rxx 1 q (gi fr q (.inr (⟨h,q,⟨Zp,Zp,Zp,Zp,⟨q,Zs _,q,q⟩,Zp,Zp,Zp,Zp,Zp,Zt⟩⟩))))))
 rintro rv st1 (⟨h,rfl,hst⟩|⟨h,rfl,hst⟩)
 subst hq
 dsimp only at h
 exact WL.weak hst (Rl 1 q (Zn (bF q (Rcx 5 q (af (bT q) (.inr (.inl ⟨j,k,p,w,x,y,f.1.name,f.1.fields,((f179 B).1),((f179 B).2),((f179 B).1),((f179 B).2),h,⟨Zp,Zp,Zp,Zp,⟨q,Zs _,q,q⟩,Zp,Zp,Zp,Zp,Zp,Zt⟩⟩)))))))
 subst ht
 dsimp only at h
 exact WL.weak hst (Rl 1 q (Zn (aW q (Rcx 7 q (WE.drop 6 (env':=[(0, .yl 4),(1, .pt 3 0),(18, .l E9 H),(19, .n (List.length H:Int)),(20, .n (IntKind.i64.wrap (I+1)))]) Sb q q (Nat.le_trans (Nat.le_of_eq K) (nbT q)) (Fn7 h))))))
 refine Rcc 6 q (Ci h q (λh=>?_) λh=>?_)
 refine Rcl 4 q ?_
 obtain⟨hy,hz,h⟩:=ah h
 refine WL.inl (us:=[.pt 2 3]) (λrv st'=>(hy ()=some r∧Le rv (.ag [.fn (.func 210) [] [.pt 7 0], .fn (.func 211) [] [.pt 7 0], .n 0, .n 0])∧SLe st' [.row 4 [.d (D.b false)], .row 224 [.d (D.s e.1.name), .d (D.s e.1.fields)], .row 45 [.d (D.i .u8 x0.op), .n j, .n k, .n p, .n w, .n x, .n y], .row 230 [.pt 2 0], .lp g [.pt 0 0] .ready none, .row 224 [.d (D.s f.1.name), .d (D.s f.1.fields)], .row 233 [.d (.v .nilFunc), .d (.v .nilFunc), .n 0, .n 0], .row 264 [.pt 2 3], .row 233 [.fn (.func 210) [] [.pt 7 0], .fn (.func 211) [] [.pt 7 0], .n 0, .n 0]])) q q q q q ?_ (Zw q) q q ?_
 refine cI func177 λ_ _ _ _=>?_
 exact Rcl 2 q (Bx q q q (Al e9 q (Rll 6 q (Zq (aB p7 e9 q q) q (sS Z6 d5 Z2 (Rlx 3 q (af (rs1 q (cz q q qi d5 q)) ⟨h,Zl,⟨Zp,Zp,Zp,Zp,⟨q,Zs _,q,q⟩,Zp,Zp,Zp,Zp,Zt⟩⟩)))))))
 rintro rv st1 ⟨h,hr,hst⟩
 subst hz
 dsimp only at h
 refine WL.cast 47 q hr (WL.weak hst (sS Z6 d5 Z2 (WL.nil (Rxl 5 q ?_))))
 obtain⟨C,hA,h⟩:=aa h
 refine Zq (cM underlying9 q q hA) q (wF Z4 (f179_c) Lw Z3 (Rl 4 q (sS Z6 s2 Z2 (Rl 1 q (sS Z6 s2 Z2 (Rll 6 q ?_))))))
 obtain⟨hB,hC,h⟩:=ah h
 obtain⟨hD,hE,h⟩:=ah h
 refine WL.yield (env0:=[(44, .ag [.fn (.func 210) [] [.pt 7 0], .fn (.func 211) [] [.pt 7 0], .n ((f179 C).1), .n ((f179 C).2)]),(2, .pt 0 0)]) (λrv st'=>(hB ()=some r∧rv= .d (.v (.bool false))∧SLe st' [.row 4 [.d (D.b false)], .row 224 [.d (D.s e.1.name), .d (D.s e.1.fields)], .row 45 [.d (D.i .u8 x0.op), .n j, .n k, .n p, .n w, .n x, .n y], .row 230 [.pt 2 0], .lp g [.pt 0 0] .done (some .ret), .row 224 [.d (D.s f.1.name), .d (D.s f.1.fields)], .row 233 [.fn (.func 210) [] [.pt 7 0], .fn (.func 211) [] [.pt 7 0], .n ((f179 C).1), .n ((f179 C).2)], .row 264 [.pt 2 3], .row 233 [.fn (.func 210) [] [.pt 7 0], .fn (.func 211) [] [.pt 7 0], .n 0, .n 0], .row 233 [.fn (.func 210) [] [.pt 7 0], .fn (.func 211) [] [.pt 7 0], .n ((f179 C).1), .n ((f179 C).2)]])∨(hD ()=some r∧rv= .d (.v (.bool true))∧SLe st' [.row 4 [.d (D.b false)], .row 224 [.d (D.s e.1.name), .d (D.s e.1.fields)], .row 45 [.d (D.i .u8 x0.op), .n j, .n k, .n 0, .n w, .n x, .n y], .row 230 [.pt 2 0], .lp g [.pt 0 0] .ready none, .row 224 [.d (D.s f.1.name), .d (D.s f.1.fields)], .row 233 [.fn (.func 210) [] [.pt 7 0], .fn (.func 211) [] [.pt 7 0], .n ((f179 C).1), .n ((f179 C).2)], .row 264 [.pt 2 3], .row 233 [.fn (.func 210) [] [.pt 7 0], .fn (.func 211) [] [.pt 7 0], .n 0, .n 0], .row 233 [.fn (.func 210) [] [.pt 7 0], .fn (.func 211) [] [.pt 7 0], .n ((f179 C).1), .n ((f179 C).2)]])) J q q q q q q q (λee hn fu j0=>?_) (Zw q) q q ?_
 obtain⟨em,eφ,ew,en,er⟩:=ee
 subst hn
 refine Rcl 1 q (Al e9 q (sS Z6 d5 Z2 (Rlx 1 q (iD fu q (Rcl 6 q ?_)))))
 obtain⟨hF,hH,h⟩:=ah h
 refine WL.inl (us:=[.pt 7 0]) (λrv st'=>(hF ()=some r∧Le rv (.n p)∧SLe st' [.row 4 [.d (D.b false)], .row 224 [.d (D.s e.1.name), .d (D.s e.1.fields)], .row 45 [.d (D.i .u8 x0.op), .n j, .n k, .n p, .n w, .n x, .n y], .row 230 [.pt 2 0], .lp g [.pt 0 0] .busy none, .row 224 [.d (D.s f.1.name), .d (D.s f.1.fields)], .row 233 [.fn (.func 210) [] [.pt 7 0], .fn (.func 211) [] [.pt 7 0], .n ((f179 C).1), .n ((f179 C).2)], .row 264 [.pt 2 3], .row 233 [.fn (.func 210) [] [.pt 7 0], .fn (.func 211) [] [.pt 7 0], .n 0, .n 0], .row 233 [.fn (.func 210) [] [.pt 7 0], .fn (.func 211) [] [.pt 7 0], .n ((f179 C).1), .n ((f179 C).2)]])) q q q q q ?_ (Zw q) q q ?_
 refine cI func210 λ_ _ _ _=>?_
 exact Rcx 14 q (af (rs1 q (ap q)) ⟨h,Zl,⟨Zp,Zp,Zp,Zp,⟨q,Zs _,q,q⟩,Zp,Zp,Zp,Zp,Zp,Zt⟩⟩)
 rintro rv st1 ⟨h,hr,hst⟩
 subst hH
 dsimp only at h
 refine WL.cast 47 q hr (WL.weak hst (Rl 1 q (Zn (Rcl 7 q ?_))))
 refine OG 5 52 57 5 5 ?_
 refine Rlc 2 q (Ci h q (λh=>?_) λh=>?_)
 exact Rcl 2 q (sS Z6 s4 Z2 (Rlx 5 q (dj fu q (.inl ⟨h,q,⟨Zp,Zp,Zp,Zp,⟨q,Zs _,q,q⟩,Zp,Zp,Zp,Zp,Zp,Zt⟩⟩))))
 refine Rcl 5 q ?_
 obtain⟨hI,hJ,h⟩:=ah h
 refine WL.inl (us:=[.n 0, .pt 7 0]) (λrv st'=>(hI ()=some r∧Le rv (.tu [])∧SLe st' [.row 4 [.d (D.b false)], .row 224 [.d (D.s e.1.name), .d (D.s e.1.fields)], .row 45 [.d (D.i .u8 x0.op), .n j, .n k, .n 0, .n w, .n x, .n y], .row 230 [.pt 2 0], .lp g [.pt 0 0] .busy none, .row 224 [.d (D.s f.1.name), .d (D.s f.1.fields)], .row 233 [.fn (.func 210) [] [.pt 7 0], .fn (.func 211) [] [.pt 7 0], .n ((f179 C).1), .n ((f179 C).2)], .row 264 [.pt 2 3], .row 233 [.fn (.func 210) [] [.pt 7 0], .fn (.func 211) [] [.pt 7 0], .n 0, .n 0], .row 233 [.fn (.func 210) [] [.pt 7 0], .fn (.func 211) [] [.pt 7 0], .n ((f179 C).1), .n ((f179 C).2)]])) q q q q q ?_ (Zw q) q q ?_
 refine cI func211 λ_ _ _ _=>?_
 exact Rcl 4 q (sS Z6 s3 Z2 (Rlx 1 q (cG (af (bT q) ⟨h,Zl,⟨Zp,Zp,Zp,Zp,⟨q,Zs _,q,q⟩,Zp,Zp,Zp,Zp,Zp,Zt⟩⟩))))
 rintro rv st1 ⟨h,hr,hst⟩
 subst hJ
 dsimp only at h
 exact WL.cast 60 q hr (WL.weak hst (WL.nil (Rxx 1 q (gi fu q (.inr (⟨h,q,⟨Zp,Zp,Zp,Zp,⟨q,Zs _,q,q⟩,Zp,Zp,Zp,Zp,Zp,Zt⟩⟩))))))
 rintro rv st1 (⟨h,rfl,hst⟩|⟨h,rfl,hst⟩)
 subst hC
 dsimp only at h
 exact WL.weak hst (Rl 1 q (Zn (bF q (Rcx 5 q (af (bT q) (.inr (.inr (.inl ⟨j,k,p,w,x,y,f.1.name,f.1.fields,((f179 C).1),((f179 C).2),((f179 C).1),((f179 C).2),h,⟨Zp,Zp,Zp,Zp,⟨q,Zs _,q,q⟩,Zp,Zp,Zp,Zp,Zp,Zt⟩⟩))))))))
 subst hE
 dsimp only at h
 exact WL.weak hst (Rl 1 q (Zn (aW q (Rcx 7 q (WE.drop 6 (env':=[(0, .yl 4),(1, .pt 3 0),(18, .l E9 H),(19, .n (List.length H:Int)),(20, .n (IntKind.i64.wrap (I+1)))]) Sb q q (Nat.le_trans (Nat.le_of_eq K) (nbT q)) (Fn7 h))))))
 refine Rcc 6 q (Ci h q (λh=>?_) λh=>?_)
 refine Rcl 4 q ?_
 obtain⟨hK,hL,h⟩:=ah h
 refine WL.inl (us:=[.pt 2 4]) (λrv st'=>(hK ()=some r∧Le rv (.ag [.fn (.func 212) [] [.pt 7 0], .fn (.func 213) [] [.pt 7 0], .n 0, .n 0])∧SLe st' [.row 4 [.d (D.b false)], .row 224 [.d (D.s e.1.name), .d (D.s e.1.fields)], .row 45 [.d (D.i .u8 x0.op), .n j, .n k, .n p, .n w, .n x, .n y], .row 230 [.pt 2 0], .lp g [.pt 0 0] .ready none, .row 224 [.d (D.s f.1.name), .d (D.s f.1.fields)], .row 233 [.d (.v .nilFunc), .d (.v .nilFunc), .n 0, .n 0], .row 128 [.pt 2 4], .row 233 [.fn (.func 212) [] [.pt 7 0], .fn (.func 213) [] [.pt 7 0], .n 0, .n 0]])) q q q q q ?_ (Zw q) q q ?_
 refine cI func178 λ_ _ _ _=>?_
 exact Rcl 2 q (Bx q q q (Al e9 q (Rll 6 q (Zq (aB p7 e9 q q) q (sS Z6 d5 Z2 (Rlx 3 q (af (rs1 q (cz q q qi d5 q)) ⟨h,Zl,⟨Zp,Zp,Zp,Zp,⟨q,Zs _,q,q⟩,Zp,Zp,Zp,Zp,Zt⟩⟩)))))))
 rintro rv st1 ⟨h,hr,hst⟩
 subst hL
 dsimp only at h
 refine WL.cast 53 q hr (WL.weak hst (sS Z6 d5 Z2 (WL.nil (Rxl 5 q ?_))))
 obtain⟨E,hM,h⟩:=aa h
 refine Zq (cM underlying9 q q hM) q (wF Z4 (f179_c) Lw Z3 (Rl 4 q (sS Z6 s2 Z2 (Rl 1 q (sS Z6 s2 Z2 (Rll 6 q ?_))))))
 obtain⟨hN,hO,h⟩:=ah h
 obtain⟨hQ,hR,h⟩:=ah h
 refine WL.yield (env0:=[(44, .ag [.fn (.func 212) [] [.pt 7 0], .fn (.func 213) [] [.pt 7 0], .n ((f179 E).1), .n ((f179 E).2)]),(2, .pt 0 0)]) (λrv st'=>(hN ()=some r∧rv= .d (.v (.bool false))∧SLe st' [.row 4 [.d (D.b false)], .row 224 [.d (D.s e.1.name), .d (D.s e.1.fields)], .row 45 [.d (D.i .u8 x0.op), .n j, .n k, .n p, .n w, .n x, .n y], .row 230 [.pt 2 0], .lp g [.pt 0 0] .done (some .ret), .row 224 [.d (D.s f.1.name), .d (D.s f.1.fields)], .row 233 [.fn (.func 212) [] [.pt 7 0], .fn (.func 213) [] [.pt 7 0], .n ((f179 E).1), .n ((f179 E).2)], .row 128 [.pt 2 4], .row 233 [.fn (.func 212) [] [.pt 7 0], .fn (.func 213) [] [.pt 7 0], .n 0, .n 0], .row 233 [.fn (.func 212) [] [.pt 7 0], .fn (.func 213) [] [.pt 7 0], .n ((f179 E).1), .n ((f179 E).2)]])∨(hQ ()=some r∧rv= .d (.v (.bool true))∧SLe st' [.row 4 [.d (D.b false)], .row 224 [.d (D.s e.1.name), .d (D.s e.1.fields)], .row 45 [.d (D.i .u8 x0.op), .n j, .n k, .n p, .n 0, .n x, .n y], .row 230 [.pt 2 0], .lp g [.pt 0 0] .ready none, .row 224 [.d (D.s f.1.name), .d (D.s f.1.fields)], .row 233 [.fn (.func 212) [] [.pt 7 0], .fn (.func 213) [] [.pt 7 0], .n ((f179 E).1), .n ((f179 E).2)], .row 128 [.pt 2 4], .row 233 [.fn (.func 212) [] [.pt 7 0], .fn (.func 213) [] [.pt 7 0], .n 0, .n 0], .row 233 [.fn (.func 212) [] [.pt 7 0], .fn (.func 213) [] [.pt 7 0], .n ((f179 E).1), .n ((f179 E).2)]])) J q q q q q q q (λee hn fv j1=>?_) (Zw q) q q ?_
 obtain⟨em,eφ,ew,en,er⟩:=ee
 subst hn
 refine Rcl 1 q (Al e9 q (sS Z6 d5 Z2 (Rlx 1 q (iD fv q (Rcl 6 q ?_)))))
 obtain⟨hS,hT,h⟩:=ah h
 refine WL.inl (us:=[.pt 7 0]) (λrv st'=>(hS ()=some r∧Le rv (.n w)∧SLe st' [.row 4 [.d (D.b false)], .row 224 [.d (D.s e.1.name), .d (D.s e.1.fields)], .row 45 [.d (D.i .u8 x0.op), .n j, .n k, .n p, .n w, .n x, .n y], .row 230 [.pt 2 0], .lp g [.pt 0 0] .busy none, .row 224 [.d (D.s f.1.name), .d (D.s f.1.fields)], .row 233 [.fn (.func 212) [] [.pt 7 0], .fn (.func 213) [] [.pt 7 0], .n ((f179 E).1), .n ((f179 E).2)], .row 128 [.pt 2 4], .row 233 [.fn (.func 212) [] [.pt 7 0], .fn (.func 213) [] [.pt 7 0], .n 0, .n 0], .row 233 [.fn (.func 212) [] [.pt 7 0], .fn (.func 213) [] [.pt 7 0], .n ((f179 E).1), .n ((f179 E).2)]])) q q q q q ?_ (Zw q) q q ?_
 refine cI func212 λ_ _ _ _=>?_
 exact Rcx 14 q (af (rs1 q (ap q)) ⟨h,Zl,⟨Zp,Zp,Zp,Zp,⟨q,Zs _,q,q⟩,Zp,Zp,Zp,Zp,Zp,Zt⟩⟩)
 rintro rv st1 ⟨h,hr,hst⟩
 subst hT
 dsimp only at h
 refine WL.cast 47 q hr (WL.weak hst (Rl 1 q (Zn (Rcl 7 q ?_))))
 refine OG 5 52 57 5 5 ?_
 refine Rlc 2 q (Ci h q (λh=>?_) λh=>?_)
 exact Rcl 2 q (sS Z6 s4 Z2 (Rlx 5 q (dj fv q (.inl ⟨h,q,⟨Zp,Zp,Zp,Zp,⟨q,Zs _,q,q⟩,Zp,Zp,Zp,Zp,Zp,Zt⟩⟩))))
 refine Rcl 5 q ?_
 obtain⟨hU,hV,h⟩:=ah h
 refine WL.inl (us:=[.n 0, .pt 7 0]) (λrv st'=>(hU ()=some r∧Le rv (.tu [])∧SLe st' [.row 4 [.d (D.b false)], .row 224 [.d (D.s e.1.name), .d (D.s e.1.fields)], .row 45 [.d (D.i .u8 x0.op), .n j, .n k, .n p, .n 0, .n x, .n y], .row 230 [.pt 2 0], .lp g [.pt 0 0] .busy none, .row 224 [.d (D.s f.1.name), .d (D.s f.1.fields)], .row 233 [.fn (.func 212) [] [.pt 7 0], .fn (.func 213) [] [.pt 7 0], .n ((f179 E).1), .n ((f179 E).2)], .row 128 [.pt 2 4], .row 233 [.fn (.func 212) [] [.pt 7 0], .fn (.func 213) [] [.pt 7 0], .n 0, .n 0], .row 233 [.fn (.func 212) [] [.pt 7 0], .fn (.func 213) [] [.pt 7 0], .n ((f179 E).1), .n ((f179 E).2)]])) q q q q q ?_ (Zw q) q q ?_
 refine cI func213 λ_ _ _ _=>?_
 exact Rcl 4 q (sS Z6 s2 Z2 (Rlx 1 q (cG (af (bT q) ⟨h,Zl,⟨Zp,Zp,Zp,Zp,⟨q,Zs _,q,q⟩,Zp,Zp,Zp,Zp,Zp,Zt⟩⟩))))
 rintro rv st1 ⟨h,hr,hst⟩
 subst hV
 dsimp only at h
 exact WL.cast 60 q hr (WL.weak hst (WL.nil (Rxx 1 q (gi fv q (.inr (⟨h,q,⟨Zp,Zp,Zp,Zp,⟨q,Zs _,q,q⟩,Zp,Zp,Zp,Zp,Zp,Zt⟩⟩))))))
 rintro rv st1 (⟨h,rfl,hst⟩|⟨h,rfl,hst⟩)
 subst hO
 dsimp only at h
 exact WL.weak hst (Rl 1 q (Zn (bF q (Rcx 5 q (af (bT q) (.inr (.inr (.inr (.inl ⟨j,k,p,w,x,y,f.1.name,f.1.fields,((f179 E).1),((f179 E).2),((f179 E).1),((f179 E).2),h,⟨Zp,Zp,Zp,Zp,⟨q,Zs _,q,q⟩,Zp,Zp,Zp,Zp,Zp,Zt⟩⟩)))))))))
 subst hR
 dsimp only at h
 exact WL.weak hst (Rl 1 q (Zn (aW q (Rcx 7 q (WE.drop 6 (env':=[(0, .yl 4),(1, .pt 3 0),(18, .l E9 H),(19, .n (List.length H:Int)),(20, .n (IntKind.i64.wrap (I+1)))]) Sb q q (Nat.le_trans (Nat.le_of_eq K) (nbT q)) (Fn7 h))))))
 refine Rcc 6 q (Ci h q (λh=>?_) λh=>?_)
 refine Rcl 4 q ?_
 obtain⟨hW,hX,h⟩:=ah h
 refine WL.inl (us:=[.pt 2 5]) (λrv st'=>(hW ()=some r∧Le rv (.ag [.fn (.func 212) [] [.pt 7 0], .fn (.func 213) [] [.pt 7 0], .n 0, .n 0])∧SLe st' [.row 4 [.d (D.b false)], .row 224 [.d (D.s e.1.name), .d (D.s e.1.fields)], .row 45 [.d (D.i .u8 x0.op), .n j, .n k, .n p, .n w, .n x, .n y], .row 230 [.pt 2 0], .lp g [.pt 0 0] .ready none, .row 224 [.d (D.s f.1.name), .d (D.s f.1.fields)], .row 233 [.d (.v .nilFunc), .d (.v .nilFunc), .n 0, .n 0], .row 128 [.pt 2 5], .row 233 [.fn (.func 212) [] [.pt 7 0], .fn (.func 213) [] [.pt 7 0], .n 0, .n 0]])) q q q q q ?_ (Zw q) q q ?_
 refine cI func178 λ_ _ _ _=>?_
 exact Rcl 2 q (Bx q q q (Al e9 q (Rll 6 q (Zq (aB p7 e9 q q) q (sS Z6 d5 Z2 (Rlx 3 q (af (rs1 q (cz q q qi d5 q)) ⟨h,Zl,⟨Zp,Zp,Zp,Zp,⟨q,Zs _,q,q⟩,Zp,Zp,Zp,Zp,Zt⟩⟩)))))))
 rintro rv st1 ⟨h,hr,hst⟩
 subst hX
 dsimp only at h
 refine WL.cast 59 q hr (WL.weak hst (sS Z6 d5 Z2 (WL.nil (Rxl 5 q ?_))))
 obtain⟨F,h0,h⟩:=aa h
 refine Zq (cM underlying9 q q h0) q (wF Z4 (f179_c) Lw Z3 (Rl 4 q (sS Z6 s2 Z2 (Rl 1 q (sS Z6 s2 Z2 (Rll 6 q ?_))))))
 obtain⟨h1,h2,h⟩:=ah h
 obtain⟨h3,h4,h⟩:=ah h
 refine WL.yield (env0:=[(44, .ag [.fn (.func 212) [] [.pt 7 0], .fn (.func 213) [] [.pt 7 0], .n ((f179 F).1), .n ((f179 F).2)]),(2, .pt 0 0)]) (λrv st'=>(h1 ()=some r∧rv= .d (.v (.bool false))∧SLe st' [.row 4 [.d (D.b false)], .row 224 [.d (D.s e.1.name), .d (D.s e.1.fields)], .row 45 [.d (D.i .u8 x0.op), .n j, .n k, .n p, .n w, .n x, .n y], .row 230 [.pt 2 0], .lp g [.pt 0 0] .done (some .ret), .row 224 [.d (D.s f.1.name), .d (D.s f.1.fields)], .row 233 [.fn (.func 212) [] [.pt 7 0], .fn (.func 213) [] [.pt 7 0], .n ((f179 F).1), .n ((f179 F).2)], .row 128 [.pt 2 5], .row 233 [.fn (.func 212) [] [.pt 7 0], .fn (.func 213) [] [.pt 7 0], .n 0, .n 0], .row 233 [.fn (.func 212) [] [.pt 7 0], .fn (.func 213) [] [.pt 7 0], .n ((f179 F).1), .n ((f179 F).2)]])∨(h3 ()=some r∧rv= .d (.v (.bool true))∧SLe st' [.row 4 [.d (D.b false)], .row 224 [.d (D.s e.1.name), .d (D.s e.1.fields)], .row 45 [.d (D.i .u8 x0.op), .n j, .n k, .n p, .n w, .n 0, .n y], .row 230 [.pt 2 0], .lp g [.pt 0 0] .ready none, .row 224 [.d (D.s f.1.name), .d (D.s f.1.fields)], .row 233 [.fn (.func 212) [] [.pt 7 0], .fn (.func 213) [] [.pt 7 0], .n ((f179 F).1), .n ((f179 F).2)], .row 128 [.pt 2 5], .row 233 [.fn (.func 212) [] [.pt 7 0], .fn (.func 213) [] [.pt 7 0], .n 0, .n 0], .row 233 [.fn (.func 212) [] [.pt 7 0], .fn (.func 213) [] [.pt 7 0], .n ((f179 F).1), .n ((f179 F).2)]])) J q q q q q q q (λee hn fz j2=>?_) (Zw q) q q ?_
 obtain⟨em,eφ,ew,en,er⟩:=ee
 subst hn
 refine Rcl 1 q (Al e9 q (sS Z6 d5 Z2 (Rlx 1 q (iD fz q (Rcl 6 q ?_)))))
 obtain⟨h5,h6,h⟩:=ah h
 refine WL.inl (us:=[.pt 7 0]) (λrv st'=>(h5 ()=some r∧Le rv (.n x)∧SLe st' [.row 4 [.d (D.b false)], .row 224 [.d (D.s e.1.name), .d (D.s e.1.fields)], .row 45 [.d (D.i .u8 x0.op), .n j, .n k, .n p, .n w, .n x, .n y], .row 230 [.pt 2 0], .lp g [.pt 0 0] .busy none, .row 224 [.d (D.s f.1.name), .d (D.s f.1.fields)], .row 233 [.fn (.func 212) [] [.pt 7 0], .fn (.func 213) [] [.pt 7 0], .n ((f179 F).1), .n ((f179 F).2)], .row 128 [.pt 2 5], .row 233 [.fn (.func 212) [] [.pt 7 0], .fn (.func 213) [] [.pt 7 0], .n 0, .n 0], .row 233 [.fn (.func 212) [] [.pt 7 0], .fn (.func 213) [] [.pt 7 0], .n ((f179 F).1), .n ((f179 F).2)]])) q q q q q ?_ (Zw q) q q ?_
 refine cI func212 λ_ _ _ _=>?_
 exact Rcx 14 q (af (rs1 q (ap q)) ⟨h,Zl,⟨Zp,Zp,Zp,Zp,⟨q,Zs _,q,q⟩,Zp,Zp,Zp,Zp,Zp,Zt⟩⟩)
 rintro rv st1 ⟨h,hr,hst⟩
 subst h6
 dsimp only at h
 refine WL.cast 47 q hr (WL.weak hst (Rl 1 q (Zn (Rcl 7 q ?_))))
 refine OG 5 52 57 5 5 ?_
 refine Rlc 2 q (Ci h q (λh=>?_) λh=>?_)
 exact Rcl 2 q (sS Z6 s4 Z2 (Rlx 5 q (dj fz q (.inl ⟨h,q,⟨Zp,Zp,Zp,Zp,⟨q,Zs _,q,q⟩,Zp,Zp,Zp,Zp,Zp,Zt⟩⟩))))
 refine Rcl 5 q ?_
 obtain⟨h7,h8,h⟩:=ah h
 refine WL.inl (us:=[.n 0, .pt 7 0]) (λrv st'=>(h7 ()=some r∧Le rv (.tu [])∧SLe st' [.row 4 [.d (D.b false)], .row 224 [.d (D.s e.1.name), .d (D.s e.1.fields)], .row 45 [.d (D.i .u8 x0.op), .n j, .n k, .n p, .n w, .n 0, .n y], .row 230 [.pt 2 0], .lp g [.pt 0 0] .busy none, .row 224 [.d (D.s f.1.name), .d (D.s f.1.fields)], .row 233 [.fn (.func 212) [] [.pt 7 0], .fn (.func 213) [] [.pt 7 0], .n ((f179 F).1), .n ((f179 F).2)], .row 128 [.pt 2 5], .row 233 [.fn (.func 212) [] [.pt 7 0], .fn (.func 213) [] [.pt 7 0], .n 0, .n 0], .row 233 [.fn (.func 212) [] [.pt 7 0], .fn (.func 213) [] [.pt 7 0], .n ((f179 F).1), .n ((f179 F).2)]])) q q q q q ?_ (Zw q) q q ?_
 refine cI func213 λ_ _ _ _=>?_
 exact Rcl 4 q (sS Z6 s2 Z2 (Rlx 1 q (cG (af (bT q) ⟨h,Zl,⟨Zp,Zp,Zp,Zp,⟨q,Zs _,q,q⟩,Zp,Zp,Zp,Zp,Zp,Zt⟩⟩))))
 rintro rv st1 ⟨h,hr,hst⟩
 subst h8
 dsimp only at h
 exact WL.cast 60 q hr (WL.weak hst (WL.nil (Rxx 1 q (gi fz q (.inr (⟨h,q,⟨Zp,Zp,Zp,Zp,⟨q,Zs _,q,q⟩,Zp,Zp,Zp,Zp,Zp,Zt⟩⟩))))))
 rintro rv st1 (⟨h,rfl,hst⟩|⟨h,rfl,hst⟩)
 subst h2
 dsimp only at h
 exact WL.weak hst (Rl 1 q (Zn (bF q (Rcx 5 q (af (bT q) (.inr (.inr (.inr (.inr (.inl ⟨j,k,p,w,x,y,f.1.name,f.1.fields,((f179 F).1),((f179 F).2),((f179 F).1),((f179 F).2),h,⟨Zp,Zp,Zp,Zp,⟨q,Zs _,q,q⟩,Zp,Zp,Zp,Zp,Zp,Zt⟩⟩))))))))))
 subst h4
 dsimp only at h
 exact WL.weak hst (Rl 1 q (Zn (aW q (Rcx 7 q (WE.drop 6 (env':=[(0, .yl 4),(1, .pt 3 0),(18, .l E9 H),(19, .n (List.length H:Int)),(20, .n (IntKind.i64.wrap (I+1)))]) Sb q q (Nat.le_trans (Nat.le_of_eq K) (nbT q)) (Fn7 h))))))
 refine Rcl 4 q ?_
 obtain⟨h9,h',h⟩:=ah h
 refine WL.inl (us:=[.pt 2 6]) (λrv st'=>(h9 ()=some r∧Le rv (.ag [.fn (.func 210) [] [.pt 7 0], .fn (.func 211) [] [.pt 7 0], .n 0, .n 0])∧SLe st' [.row 4 [.d (D.b false)], .row 224 [.d (D.s e.1.name), .d (D.s e.1.fields)], .row 45 [.d (D.i .u8 x0.op), .n j, .n k, .n p, .n w, .n x, .n y], .row 230 [.pt 2 0], .lp g [.pt 0 0] .ready none, .row 224 [.d (D.s f.1.name), .d (D.s f.1.fields)], .row 233 [.d (.v .nilFunc), .d (.v .nilFunc), .n 0, .n 0], .row 264 [.pt 2 6], .row 233 [.fn (.func 210) [] [.pt 7 0], .fn (.func 211) [] [.pt 7 0], .n 0, .n 0]])) q q q q q ?_ (Zw q) q q ?_
 refine cI func177 λ_ _ _ _=>?_
 exact Rcl 2 q (Bx q q q (Al e9 q (Rll 6 q (Zq (aB p7 e9 q q) q (sS Z6 d5 Z2 (Rlx 3 q (af (rs1 q (cz q q qi d5 q)) ⟨h,Zl,⟨Zp,Zp,Zp,Zp,⟨q,Zs _,q,q⟩,Zp,Zp,Zp,Zp,Zt⟩⟩)))))))
 rintro rv st1 ⟨h,hr,hst⟩
 subst h'
 dsimp only at h
 refine WL.cast 29 q hr (WL.weak hst (sS Z6 d5 Z2 (WL.nil (Rxl 5 q ?_))))
 obtain⟨G,ih,h⟩:=aa h
 refine Zq (cM underlying9 q q ih) q (wF Z4 (f179_c) Lw Z3 (Rl 4 q (sS Z6 s2 Z2 (Rl 1 q (sS Z6 s2 Z2 (Rll 6 q ?_))))))
 obtain⟨ix,i0,h⟩:=ah h
 obtain⟨i1,i2,h⟩:=ah h
 refine WL.yield (env0:=[(44, .ag [.fn (.func 210) [] [.pt 7 0], .fn (.func 211) [] [.pt 7 0], .n ((f179 G).1), .n ((f179 G).2)]),(2, .pt 0 0)]) (λrv st'=>(ix ()=some r∧rv= .d (.v (.bool false))∧SLe st' [.row 4 [.d (D.b false)], .row 224 [.d (D.s e.1.name), .d (D.s e.1.fields)], .row 45 [.d (D.i .u8 x0.op), .n j, .n k, .n p, .n w, .n x, .n y], .row 230 [.pt 2 0], .lp g [.pt 0 0] .done (some .ret), .row 224 [.d (D.s f.1.name), .d (D.s f.1.fields)], .row 233 [.fn (.func 210) [] [.pt 7 0], .fn (.func 211) [] [.pt 7 0], .n ((f179 G).1), .n ((f179 G).2)], .row 264 [.pt 2 6], .row 233 [.fn (.func 210) [] [.pt 7 0], .fn (.func 211) [] [.pt 7 0], .n 0, .n 0], .row 233 [.fn (.func 210) [] [.pt 7 0], .fn (.func 211) [] [.pt 7 0], .n ((f179 G).1), .n ((f179 G).2)]])∨(i1 ()=some r∧rv= .d (.v (.bool true))∧SLe st' [.row 4 [.d (D.b false)], .row 224 [.d (D.s e.1.name), .d (D.s e.1.fields)], .row 45 [.d (D.i .u8 x0.op), .n j, .n k, .n p, .n w, .n x, .n 0], .row 230 [.pt 2 0], .lp g [.pt 0 0] .ready none, .row 224 [.d (D.s f.1.name), .d (D.s f.1.fields)], .row 233 [.fn (.func 210) [] [.pt 7 0], .fn (.func 211) [] [.pt 7 0], .n ((f179 G).1), .n ((f179 G).2)], .row 264 [.pt 2 6], .row 233 [.fn (.func 210) [] [.pt 7 0], .fn (.func 211) [] [.pt 7 0], .n 0, .n 0], .row 233 [.fn (.func 210) [] [.pt 7 0], .fn (.func 211) [] [.pt 7 0], .n ((f179 G).1), .n ((f179 G).2)]])) J q q q q q q q (λee hn f0 j3=>?_) (Zw q) q q ?_
 obtain⟨em,eφ,ew,en,er⟩:=ee
 subst hn
 refine Rcl 1 q (Al e9 q (sS Z6 d5 Z2 (Rlx 1 q (iD f0 q (Rcl 6 q ?_)))))
 obtain⟨i3,i4,h⟩:=ah h
 refine WL.inl (us:=[.pt 7 0]) (λrv st'=>(i3 ()=some r∧Le rv (.n y)∧SLe st' [.row 4 [.d (D.b false)], .row 224 [.d (D.s e.1.name), .d (D.s e.1.fields)], .row 45 [.d (D.i .u8 x0.op), .n j, .n k, .n p, .n w, .n x, .n y], .row 230 [.pt 2 0], .lp g [.pt 0 0] .busy none, .row 224 [.d (D.s f.1.name), .d (D.s f.1.fields)], .row 233 [.fn (.func 210) [] [.pt 7 0], .fn (.func 211) [] [.pt 7 0], .n ((f179 G).1), .n ((f179 G).2)], .row 264 [.pt 2 6], .row 233 [.fn (.func 210) [] [.pt 7 0], .fn (.func 211) [] [.pt 7 0], .n 0, .n 0], .row 233 [.fn (.func 210) [] [.pt 7 0], .fn (.func 211) [] [.pt 7 0], .n ((f179 G).1), .n ((f179 G).2)]])) q q q q q ?_ (Zw q) q q ?_
 refine cI func210 λ_ _ _ _=>?_
 exact Rcx 14 q (af (rs1 q (ap q)) ⟨h,Zl,⟨Zp,Zp,Zp,Zp,⟨q,Zs _,q,q⟩,Zp,Zp,Zp,Zp,Zp,Zt⟩⟩)
 rintro rv st1 ⟨h,hr,hst⟩
 subst i4
 dsimp only at h
 refine WL.cast 47 q hr (WL.weak hst (Rl 1 q (Zn (Rcl 7 q ?_))))
 refine OG 5 52 57 5 5 ?_
 refine Rlc 2 q (Ci h q (λh=>?_) λh=>?_)
 exact Rcl 2 q (sS Z6 s4 Z2 (Rlx 5 q (dj f0 q (.inl ⟨h,q,⟨Zp,Zp,Zp,Zp,⟨q,Zs _,q,q⟩,Zp,Zp,Zp,Zp,Zp,Zt⟩⟩))))
 refine Rcl 5 q ?_
 obtain⟨i5,i6,h⟩:=ah h
 refine WL.inl (us:=[.n 0, .pt 7 0]) (λrv st'=>(i5 ()=some r∧Le rv (.tu [])∧SLe st' [.row 4 [.d (D.b false)], .row 224 [.d (D.s e.1.name), .d (D.s e.1.fields)], .row 45 [.d (D.i .u8 x0.op), .n j, .n k, .n p, .n w, .n x, .n 0], .row 230 [.pt 2 0], .lp g [.pt 0 0] .busy none, .row 224 [.d (D.s f.1.name), .d (D.s f.1.fields)], .row 233 [.fn (.func 210) [] [.pt 7 0], .fn (.func 211) [] [.pt 7 0], .n ((f179 G).1), .n ((f179 G).2)], .row 264 [.pt 2 6], .row 233 [.fn (.func 210) [] [.pt 7 0], .fn (.func 211) [] [.pt 7 0], .n 0, .n 0], .row 233 [.fn (.func 210) [] [.pt 7 0], .fn (.func 211) [] [.pt 7 0], .n ((f179 G).1), .n ((f179 G).2)]])) q q q q q ?_ (Zw q) q q ?_
 refine cI func211 λ_ _ _ _=>?_
 exact Rcl 4 q (sS Z6 s3 Z2 (Rlx 1 q (cG (af (bT q) ⟨h,Zl,⟨Zp,Zp,Zp,Zp,⟨q,Zs _,q,q⟩,Zp,Zp,Zp,Zp,Zp,Zt⟩⟩))))
 rintro rv st1 ⟨h,hr,hst⟩
 subst i6
 dsimp only at h
 exact WL.cast 60 q hr (WL.weak hst (WL.nil (Rxx 1 q (gi f0 q (.inr (⟨h,q,⟨Zp,Zp,Zp,Zp,⟨q,Zs _,q,q⟩,Zp,Zp,Zp,Zp,Zp,Zt⟩⟩))))))
 rintro rv st1 (⟨h,rfl,hst⟩|⟨h,rfl,hst⟩)
 subst i0
 dsimp only at h
 exact WL.weak hst (Rl 1 q (Zn (bF q (Rcx 5 q (af (bT q) (.inr (.inr (.inr (.inr (.inr (.inl ⟨j,k,p,w,x,y,f.1.name,f.1.fields,((f179 G).1),((f179 G).2),((f179 G).1),((f179 G).2),h,⟨Zp,Zp,Zp,Zp,⟨q,Zs _,q,q⟩,Zp,Zp,Zp,Zp,Zp,Zt⟩⟩)))))))))))
 subst i2
 dsimp only at h
 exact WL.weak hst (Rl 1 q (Zn (aW q (Rcx 7 q (WE.drop 6 (env':=[(0, .yl 4),(1, .pt 3 0),(18, .l E9 H),(19, .n (List.length H:Int)),(20, .n (IntKind.i64.wrap (I+1)))]) Sb q q (Nat.le_trans (Nat.le_of_eq K) (nbT q)) (Fn7 h))))))
 exact Rcx 4 q (cG (af (bT q) (.inr (.inr (.inr (.inr (.inr (.inr (⟨j,k,p,w,x,y,f.1.name,f.1.fields,h,⟨Zp,Zp,Zp,Zp,⟨q,Zs _,q,q⟩,Zp,Zt⟩⟩)))))))))
 rintro g rv st1 (⟨R,S,T,U,V,W,X,Y,Z,ad,ax,a0,h,hst⟩|⟨a1,a6,a7,a8,a9,a',bb,bk,bo,bs,b0,b1,h,hst⟩|⟨b2,b3,b4,b5,b6,b7,b8,b9,b',ca,cb,cc,h,hst⟩|⟨cd,ci,cj,cl,cn,cp,cx,c0,c1,c2,c3,c4,h,hst⟩|⟨c5,c6,c7,c',dd,df,ds,dA,dS,d0,d1,d2,h,hst⟩|⟨d3,d',ea,eb,ei,el,es,et,ex,ey,e0,e1,h,hst⟩|⟨e2,e3,e4,e5,e6,e7,e8,e',h,hst⟩)
 subst g1
 dsimp only at h
 refine⟨_,_,_,_,_,hst,q,(by intro h;cases h),?_⟩
 refine Rxx 2 q ?_
 obtain rfl:=Oi h
 exact aS (rs1 q (fb q q a4 q)) Zl
 subst g2
 dsimp only at h
 refine⟨_,_,_,_,_,hst,q,(by intro h;cases h),?_⟩
 refine Rxx 2 q ?_
 obtain rfl:=Oi h
 exact aS (rs1 q (fb q q a4 q)) Zl
 subst g3
 dsimp only at h
 refine⟨_,_,_,_,_,hst,q,(by intro h;cases h),?_⟩
 refine Rxx 2 q ?_
 obtain rfl:=Oi h
 exact aS (rs1 q (fb q q a4 q)) Zl
 subst g4
 dsimp only at h
 refine⟨_,_,_,_,_,hst,q,(by intro h;cases h),?_⟩
 refine Rxx 2 q ?_
 obtain rfl:=Oi h
 exact aS (rs1 q (fb q q a4 q)) Zl
 subst g5
 dsimp only at h
 refine⟨_,_,_,_,_,hst,q,(by intro h;cases h),?_⟩
 refine Rxx 2 q ?_
 obtain rfl:=Oi h
 exact aS (rs1 q (fb q q a4 q)) Zl
 subst g6
 dsimp only at h
 refine⟨_,_,_,_,_,hst,q,(by intro h;cases h),?_⟩
 refine Rxx 2 q ?_
 obtain rfl:=Oi h
 exact aS (rs1 q (fb q q a4 q)) Zl
 subst g7
 dsimp only at h
 refine⟨_,_,_,_,_,hst,q,(by intro h;cases h),?_⟩
 exact Rxx 1 q (cZ ⟨_,_,_,_,_,_,_,_,h,Sb,Tv⟩)
 refine Rcl 5 q (Zq (aB p45 z45 q q) q (Zq (iB (xs:=[.int .u8 x0.op, .int .i64 L, .int .i64 M, .int .i64 N, .int .i64 O, .int .i64 P, .int .i64 Q]) (ys:=[.int .u8 x0.op, .int .i64 0, .int .i64 0, .int .i64 0, .int .i64 0, .int .i64 0, .int .i64 0]) q45 q (aw (Zs _)) q (aw (Zs _)) q q q) q (sS Z6 s4 Z2 (Rlx 3 q ?_))))
 obtain rfl:=Oi h
 exact aS (rs1 q (fb q q a4 q)) Zl

theorem f125_c(y0:ak):Pu prog 125 [.ag (R45 y0)] (.b (f125 y0)):=by
 generalize h:f125 y0=r
 unfold f125 at h
 refine fI func125 λ_ _=>?_
 exact Rcl 2 q (Bd q q (Zs _) q (Rlx 12 q (FB h)))

theorem f126_c{t0:bn}{a:Int}{n2:Int}{r:Int×Bool}(h:f126 t0 a n2=some r):Pu prog 126 [.ag (bE t0), .i .i64 a, .i .i64 n2] (.tu [.i .i64 r.1, .b r.2]):=by
 unfold f126 at h
 refine fI func126 λ_ _=>?_
 refine Rcl 2 q (Bd q q (Zs _) q (Rll 10 q ?_))
 apply WL.or 7 (t:=11) (d:=18)
 exact q
 intro m
 exact Rl 4 q (Zy (ab E27 t0.text.tasks e28 q q Zl) q q q (Rl 2 q (WL.nil ⟨q,[_,_,_,_,_,_,_],q,q,q⟩)))
 exact Rn 7 7
 refine Rl 1 q ?_
 refine OG 3 19 22 3 3 ?_
 refine Rl 1 q ?_
 obtain⟨g,j,h⟩:=aa h
 refine Gg 11 23 34 g j (λh=>?_) (λh=>?_) ?_
 exact On 11 11 h
 refine Rl 5 q ?_
 obtain⟨k,e,h⟩:=aa h
 exact Zy (aj e28 q Zl q (ae e) (aR mt e) q) q q q (Rl 2 q (Zy (ab kM k.entries e25 q q Zl) q q q (On 2 11 h)))
 refine Rlc 2 q (Ci h q (λh=>Rcx 8 q (FA h)) λh=>?_)
 exact Rcl 8 q (Ix h e28 mt q Zl q q λp _ h=>(Rl 3 q (Ix h e25 pF q Zl q q λf _ h=>(Rl 1 q (Al z173 q (sS Z6 s173 Z2 (Rll 6 q (Zq (ab E3 f.ins e96 q q Zl) q (Rl 2 q (Zq (ab E3 f.outs e96 q q Zl) q (Rlx 7 q (FA h))))))))))))

theorem f127_c{t0:bn}{p1:Int}{n2:Int}{r:Bool}(h:f127 t0 p1 n2=some r):Pu prog 127 [.ag (bE t0), .i .i64 p1, .i .i64 n2] (.b r):=by
 unfold f127 at h
 refine fI func127 λ_ _=>?_
 refine Rcl 2 q (Bd q q (Zs _) q (Rll 8 q ?_))
 apply WL.and 7 (t:=9) (d:=16)
 exact q
 intro j
 exact Rl 4 q (Zy (ab fJ t0.text.prots e35 q q Zl) q q q (Rl 2 q (WL.nil ⟨q,[_,_,_,_,_,_,_],q,q,q⟩)))
 exact Rn 7 7
 refine Rl 1 q ?_
 refine AG 3 17 20 3 3 ?_
 refine Rl 1 q ?_
 obtain⟨e,f,h⟩:=aa h
 refine Gg 11 21 32 e f (λh=>?_) (λh=>?_) ?_
 refine Rl 5 q ?_
 obtain⟨g,a,h⟩:=aa h
 exact Zy (aj e35 q Zl q (ae a) (aR mu a) q) q q q (Rl 2 q (Zy (ab dW g.barriers nD q q Zl) q q q (On 2 11 h)))
 exact On 11 11 h
 exact Rlx 4 q (FA h)

theorem f78_c{t0:bn}{x1:ak}{r:Bool}(h:f78 t0 x1=some r):Pu prog 78 [.ag (bE t0), .ag (R45 x1)] (.b r):=by
 unfold f78 at h
 refine fI func78 λ_ _=>?_
 refine Rcl 2 q (Bd q q (Zs _) q (Bd q q (Zs _) q (Rll 7 q ?_)))
 obtain⟨M,k,h⟩:=aa h
 refine wF Z4 (f124_c k) Lw Z3 (Rlc 3 q (Ci h q (λh=>?_) λh=>?_))
 exact Rcx 7 q (FA h)
 refine Rcc 10 q (Jn1 (λa=> [(2, .d (.pc (bE t0))),(3, .d (.pc (R45 x1))),(14, .d (D.i .u8 x1.op)),(15, .d (D.b a))]) (λ_=> []) h (λ_ h=>?_) λa h=>?_)
 exact Rcc 6 q (Ci h q (λh=>Rcx 1 q (En1 h)) λh=>Rcx 4 q (En1 h))
 refine Ci h q (λh=>?_) (λh=>?_)
 refine Rcl 7 q ?_
 obtain⟨N,p,h⟩:=aa h
 exact wF Z4 (f111_c p) Lw Z3 (Rlx 6 q (FA h))
 refine Jn1 (λe=> [(2, .d (.pc (bE t0))),(3, .d (.pc (R45 x1))),(14, .d (D.i .u8 x1.op)),(24, .d (D.b e))]) (λ_=> []) h (λ_ h=>?_) (λe h=>?_)
 exact Rcc 6 q (Ci h q (λh=>Rcx 1 q (En1 h)) λh=>Rcx 4 q (En1 h))
 refine Ci h q (λh=>?_) (λh=>?_)
 refine Rcl 9 q ?_
 obtain⟨O,w,h⟩:=aa h
 exact wF Z4 (f111_c w) Lw Z3 (Rlx 6 q (FA h))
 refine Jn1 (λf=> [(2, .d (.pc (bE t0))),(3, .d (.pc (R45 x1))),(14, .d (D.i .u8 x1.op)),(35, .d (D.b f))]) (λ_=> []) h (λ_ h=>?_) (λf h=>?_)
 refine Rcc 6 q (Ci h q (λh=>Rcx 1 q (En1 h)) λh=>?_)
 exact Rcc 6 q (Ci h q (λh=>Rcx 1 q (En1 h)) λh=>Rcx 4 q (En1 h))
 refine Ci h q (λh=>?_) (λh=>?_)
 exact Rcl 5 q (wF Z4 (f112_c) Lw Z3 (Rlx 6 q (FA h)))
 refine Rcc 6 q (Ci h q (λh=>?_) λh=>?_)
 refine Rcl 16 q (Zq (ab E45 t0.text.insns e23 q q Zl) q (Rl 2 q ?_))
 obtain⟨x,y,h⟩:=aa h
 refine Gg 10 56 66 x y (λh=>?_) (λh=>?_) ?_
 refine Rl 6 q ?_
 replace h:=av h
 obtain⟨A,h⟩:=h
 refine Zy (jC E45 t0.text.insns (l:=x1.to) (h:=(IntKind.i64.wrap (x1.to+x1.m))) e23 q Zl ⟨_,q⟩ ⟨_,q⟩ A λ_=>q) q q q ?_
 obtain⟨P,B,h⟩:=aa h
 exact WL.fn q q q q (f76_c _ _ 125 [] [] (λz0 _ h=>by obtain rfl:=inS h;exact f125_c z0) B) ⟨Zl,(Le.fnc Zt Zt),Zt⟩ (bu q q q) q q (On 2 10 h)
 exact On 10 10 h
 exact Rlx 6 q (FA h)
 refine Rcc 6 q (Ci h q (λh=>Rcx 14 q (FA h)) λh=>?_)
 refine Jn1 (λg=> [(2, .d (.pc (bE t0))),(3, .d (.pc (R45 x1))),(14, .d (D.i .u8 x1.op)),(75, .d (D.b g))]) (λ_=> []) h (λ_ h=>?_) (λg h=>?_)
 refine Rcc 6 q (Ci h q (λh=>Rcx 1 q (En1 h)) λh=>?_)
 refine Rcc 6 q (Ci h q (λh=>Rcx 1 q (En1 h)) λh=>?_)
 exact Rcc 6 q (Ci h q (λh=>Rcx 1 q (En1 h)) λh=>Rcx 4 q (En1 h))
 refine Ci h q (λh=>?_) (λh=>?_)
 exact Rcl 7 q (Zq (ab E96 t0.text.lists e32 q q Zl) q (Rlx 7 q (FA h)))
 refine Rcc 6 q (Ci h q (λh=>Rcl 7 q (Zq (ab iz t0.text.selects e31 q q Zl) q (Rlx 7 q (FA h)))) λh=>?_)
 refine Rcc 6 q (Ci h q (λh=>?_) λh=>?_)
 refine Rcl 7 q ?_
 obtain⟨Q,C,h⟩:=aa h
 refine wF Z4 (f126_c C) Lw Z3 (Rll 11 q ?_)
 obtain⟨E,F,h⟩:=aa h
 refine Gg 6 108 114 E F (λh=>?_) (λh=>?_) ?_
 refine Rl 4 q ?_
 obtain⟨R,G,h⟩:=aa h
 exact WL.fn q q q q (f111_c G) Lw (bu q q q) q q (On 1 6 h)
 exact On 6 6 h
 exact Rlx 6 q (FA h)
 refine Rcc 6 q (Ci h q (λh=>?_) λh=>?_)
 refine Rcl 7 q ?_
 obtain⟨S,H,h⟩:=aa h
 refine wF Z4 (f126_c H) Lw Z3 (Rll 11 q ?_)
 apply WL.and 8 (t:=127) (d:=135)
 exact q
 intro T
 exact Rl 5 q (Zy (ab E45 t0.text.insns e23 q q Zl) q q q (Rl 2 q (WL.nil ⟨q,[_,_,_,_,_,_,_,_],q,q,q⟩)))
 exact Rn 8 8
 exact Rlx 6 q (FA h)
 refine Jn1 (λj=> [(2, .d (.pc (bE t0))),(3, .d (.pc (R45 x1))),(14, .d (D.i .u8 x1.op)),(136, .d (D.b j))]) (λ_=> []) h (λ_ h=>?_) (λj h=>?_)
 exact Rcc 6 q (Ci h q (λh=>Rcx 1 q (En1 h)) λh=>Rcx 4 q (En1 h))
 refine Ci h q (λh=>?_) (λh=>?_)
 exact Rcl 7 q (Zq (ab fJ t0.text.prots e35 q q Zl) q (Rlx 7 q (FA h)))
 refine Rcc 6 q (Ci h q (λh=>?_) λh=>?_)
 refine Rcl 7 q ?_
 obtain⟨U,I,h⟩:=aa h
 exact wF Z4 (f127_c I) Lw Z3 (Rlx 6 q (FA h))
 refine Rcc 6 q (Ci h q (λh=>?_) λh=>?_)
 refine Rcl 6 q ?_
 obtain⟨J,K,h⟩:=aa h
 refine Gg 7 159 166 J K (λh=>?_) (λh=>?_) ?_
 exact On 7 7 h
 refine Rl 5 q ?_
 obtain⟨V,L,h⟩:=aa h
 exact WL.fn q q q q (f127_c L) Lw (bu q q q) q q (On 1 7 h)
 exact Rlx 6 q (FA h)
 exact Rcx 9 q (FA h)

theorem f37_c{t0:ao}{r:Bool}(h:f37 t0=some r):Pu prog 37 [.ag (R38 t0)] (.b r):=by
 unfold f37 at h
 refine fI func37 λ_ _=>?_
 refine Rcl 2 q (Bd q q (Zs _) q (Rll 6 q (Zq (aB p135 z135 q q) q (Al z135 q (sS Z6 s135 Z2 (St q (Rll 7 q (Zq (ab E45 t0.insns e23 q q Zl) q (Rl 2 q ?_)))))))))
 apply WL.or 5 (t:=12) (d:=17)
 exact q
 intro N
 exact Rl 2 q (Zy (ab E45 t0.insns e23 q q Zl) q q q (Rl 2 q (WL.nil ⟨q,[_,_,_,_,_],q,q,q⟩)))
 exact Rn 5 5
 refine Rlc 2 q (Ci h q (λh=>Rcx 7 q (FA h)) λh=>?_)
 refine Rcl 9 q (Zq (ab E45 t0.insns e23 q q Zl) q (Rl 1 q (Ix h e23 dE q Zl q q λO _ h=>(Rlc 5 q (Jn1 (λj=> [(1, .d (.pc (R38 t0))),(3, .pt 0 0),(27, .d (D.b j))]) (λ_=> [.row 135 (txA t0)]) h (λ_ h=>?_) λj h=>?_)))))
 refine Rcc 6 q (Ci h q (λh=>Rcx 1 q (En1 h)) λh=>?_)
 refine Rcc 6 q (Ci h q (λh=>Rcx 1 q (En1 h)) λh=>?_)
 exact Rcc 6 q (Ci h q (λh=>Rcx 1 q (En1 h)) λh=>Rcx 4 q (En1 h))
 refine Ci h q (λh=>?_) (λh=>?_)
 refine Rcc 3 q (Jn0 [(1, .d (.pc (R38 t0))),(3, .pt 0 0)] [.row 135 (txA t0), .os 24 1 0 [[.fn (.func 68) [.ag (txA t0)] []],[.fn (.func 69) [.ag (txA t0)] []],[.fn (.func 70) [.ag (txA t0)] []],[.fn (.func 71) [.ag (txA t0)] []],[.fn (.func 72) [.ag (txA t0)] []],[.fn (.func 73) [.ag (txA t0)] []],[.fn (.func 74) [.ag (txA t0)] []],[.fn (.func 75) [.ag (txA t0)] []]]] h (λ_ h=>?_) λh=>?_)
 refine Rcl 18 q (WL.s ((NewOs.b (aJ l136 z24 q dC dC q q q dC)).does) (Zw q) q q (Zq (jD ml q q q) q (Rlc 4 q (pQ 9 (Rcc 6 q (bF q (Rcl 6 q (Zq (bq ml q q q dC (by show(0:Int)<((8:Nat):Int);decide)) q (Zq (ck q q a24 q) q (Rll 6 q ?_))))))))))
 obtain⟨P,m,h⟩:=aa h
 refine wF Z4 (f68_c m) ⟨(aw (Zs _)),Zt⟩ Z3 (Rlc 3 q (Ci h q (λh=>?_) λh=>?_))
 exact Rcx 8 q (di (Rxx 2 q (FA h)))
 refine Rcl 4 q (Zq (gX (c:=1) q q dC) q (Rlx 2 q (iZ (WC.sub (env':=[(1, .d (.pc (R38 t0))),(3, .pt 0 0),(48, .os 1 0),(49, .n 8),(50, .n 1)]) Sb (Rcc 6 q (bF q (Rcl 6 q (Zq (bq ml q q q dC (by show(1:Int)<((8:Nat):Int);decide)) q (Zq (ck q q a24 q) q (Rll 6 q ?_))))))))))
 obtain⟨Q,p,h⟩:=aa h
 refine wF Z4 (f69_c p) ⟨(aw (Zs _)),Zt⟩ Z3 (Rlc 3 q (Ci h q (λh=>?_) λh=>?_))
 exact Rcx 8 q (di (Rxx 2 q (FA h)))
 refine Rcl 4 q (Zq (gX (c:=2) q q dC) q (Rlx 2 q (iZ (WC.sub (env':=[(1, .d (.pc (R38 t0))),(3, .pt 0 0),(48, .os 1 0),(49, .n 8),(50, .n 2)]) Sb (Rcc 6 q (bF q (Rcl 6 q (Zq (bq ml q q q dC (by show(2:Int)<((8:Nat):Int);decide)) q (Zq (ck q q a24 q) q (Rll 6 q ?_))))))))))
 obtain⟨R,w,h⟩:=aa h
 refine wF Z4 (f70_c w) ⟨(aw (Zs _)),Zt⟩ Z3 (Rlc 3 q (Ci h q (λh=>?_) λh=>?_))
 exact Rcx 8 q (di (Rxx 2 q (FA h)))
 refine Rcl 4 q (Zq (gX (c:=3) q q dC) q (Rlx 2 q (iZ (WC.sub (env':=[(1, .d (.pc (R38 t0))),(3, .pt 0 0),(48, .os 1 0),(49, .n 8),(50, .n 3)]) Sb (Rcc 6 q (bF q (Rcl 6 q (Zq (bq ml q q q dC (by show(3:Int)<((8:Nat):Int);decide)) q (Zq (ck q q a24 q) q (Rll 6 q ?_))))))))))
 obtain⟨S,x,h⟩:=aa h
 refine wF Z4 (f71_c x) ⟨(aw (Zs _)),Zt⟩ Z3 (Rlc 3 q (Ci h q (λh=>?_) λh=>?_))
 exact Rcx 8 q (di (Rxx 2 q (FA h)))
 refine Rcl 4 q (Zq (gX (c:=4) q q dC) q (Rlx 2 q (iZ (WC.sub (env':=[(1, .d (.pc (R38 t0))),(3, .pt 0 0),(48, .os 1 0),(49, .n 8),(50, .n 4)]) Sb (Rcc 6 q (bF q (Rcl 6 q (Zq (bq ml q q q dC (by show(4:Int)<((8:Nat):Int);decide)) q (Zq (ck q q a24 q) q (Rll 6 q ?_))))))))))
 obtain⟨T,y,h⟩:=aa h
 refine wF Z4 (f72_c y) ⟨(aw (Zs _)),Zt⟩ Z3 (Rlc 3 q (Ci h q (λh=>?_) λh=>?_))
 exact Rcx 8 q (di (Rxx 2 q (FA h)))
 refine Rcl 4 q (Zq (gX (c:=5) q q dC) q (Rlx 2 q (iZ (WC.sub (env':=[(1, .d (.pc (R38 t0))),(3, .pt 0 0),(48, .os 1 0),(49, .n 8),(50, .n 5)]) Sb (Rcc 6 q (bF q (Rcl 6 q (Zq (bq ml q q q dC (by show(5:Int)<((8:Nat):Int);decide)) q (Zq (ck q q a24 q) q (Rll 6 q ?_))))))))))
 obtain⟨U,A,h⟩:=aa h
 refine wF Z4 (f73_c A) ⟨(aw (Zs _)),Zt⟩ Z3 (Rlc 3 q (Ci h q (λh=>?_) λh=>?_))
 exact Rcx 8 q (di (Rxx 2 q (FA h)))
 refine Rcl 4 q (Zq (gX (c:=6) q q dC) q (Rlx 2 q (iZ (WC.sub (env':=[(1, .d (.pc (R38 t0))),(3, .pt 0 0),(48, .os 1 0),(49, .n 8),(50, .n 6)]) Sb (Rcc 6 q (bF q (Rcl 6 q (Zq (bq ml q q q dC (by show(6:Int)<((8:Nat):Int);decide)) q (Zq (ck q q a24 q) q (Rll 6 q ?_))))))))))
 obtain⟨V,B,h⟩:=aa h
 refine wF Z4 (f74_c B) ⟨(aw (Zs _)),Zt⟩ Z3 (Rlc 3 q (Ci h q (λh=>?_) λh=>?_))
 exact Rcx 8 q (di (Rxx 2 q (FA h)))
 refine Rcl 4 q (Zq (gX (c:=7) q q dC) q (Rlx 2 q (iZ (WC.sub (env':=[(1, .d (.pc (R38 t0))),(3, .pt 0 0),(48, .os 1 0),(49, .n 8),(50, .n 7)]) Sb (Rcc 6 q (bF q (Rcl 6 q (Zq (bq ml q q q dC (by show(7:Int)<((8:Nat):Int);decide)) q (Zq (ck q q a24 q) q (Rll 6 q ?_))))))))))
 obtain⟨W,C,h⟩:=aa h
 refine wF Z4 (f75_c C) ⟨(aw (Zs _)),Zt⟩ Z3 (Rlc 3 q (Ci h q (λh=>?_) λh=>?_))
 exact Rcx 8 q (di (Rxx 2 q (FA h)))
 exact Rcl 4 q (Zq (gX (c:=8) q q dC) q (Rlx 2 q (iZ (WC.sub (env':=[(1, .d (.pc (R38 t0))),(3, .pt 0 0),(48, .os 1 0),(49, .n 8),(50, .n 8)]) Sb (Rcc 6 q (aW q (Rcx 2 q (om (Rxx 1 q (En0 h))))))))))
 refine Rcl 5 q ?_
 obtain⟨E,F,h⟩:=ah h
 refine WL.inl (us:=[.l E45 t0.insns, .fn (.func 77) [] [.pt 0 0]]) (λrv st'=>(∃(e:Bool),E e=some r∧Le rv (.d (D.b e))∧SLe st' [.row 135 (txA t0), .os 24 1 0 [[.fn (.func 68) [.ag (txA t0)] []],[.fn (.func 69) [.ag (txA t0)] []],[.fn (.func 70) [.ag (txA t0)] []],[.fn (.func 71) [.ag (txA t0)] []],[.fn (.func 72) [.ag (txA t0)] []],[.fn (.func 73) [.ag (txA t0)] []],[.fn (.func 74) [.ag (txA t0)] []],[.fn (.func 75) [.ag (txA t0)] []]]])) q q q q q ?_ (Zw q) q q ?_
 refine cI func76 λ_ _ _ X=>?_
 refine Rcl 9 q ?_
 obtain⟨k,G,h⟩:=ah h
 refine WL.inl (us:=[.l E45 t0.insns, .fn (.func 77) [] [.pt 0 0]]) (λrv st'=>(∃(a:Int),k a=some r∧Le rv (.n a)∧SLe st' [.row 135 (txA t0), .os 24 1 0 [[.fn (.func 68) [.ag (txA t0)] []],[.fn (.func 69) [.ag (txA t0)] []],[.fn (.func 70) [.ag (txA t0)] []],[.fn (.func 71) [.ag (txA t0)] []],[.fn (.func 72) [.ag (txA t0)] []],[.fn (.func 73) [.ag (txA t0)] []],[.fn (.func 74) [.ag (txA t0)] []],[.fn (.func 75) [.ag (txA t0)] []]]])) q q q q q ?_ (Zw q) q q ?_
 refine cI func123 λ_ _ _ Y=>?_
 refine Rcc 5 q (Jn0 [] [.row 135 (txA t0), .os 24 1 0 [[.fn (.func 68) [.ag (txA t0)] []],[.fn (.func 69) [.ag (txA t0)] []],[.fn (.func 70) [.ag (txA t0)] []],[.fn (.func 71) [.ag (txA t0)] []],[.fn (.func 72) [.ag (txA t0)] []],[.fn (.func 73) [.ag (txA t0)] []],[.fn (.func 74) [.ag (txA t0)] []],[.fn (.func 75) [.ag (txA t0)] []]]] h (λH h=>?_) λh=>?_)
 refine Rcl 3 q (Zq (ab E45 t0.insns e23 q q Zl) q (Rlc 4 q (Ln1 (λf=> [(0, .l E45 t0.insns),(1, .fn (.func 77) [] [.pt 0 0]),(7, .n (List.length t0.insns:Int)),(8, .n f)]) (λ_=> [.row 135 (txA t0), .os 24 1 0 [[.fn (.func 68) [.ag (txA t0)] []],[.fn (.func 69) [.ag (txA t0)] []],[.fn (.func 70) [.ag (txA t0)] []],[.fn (.func 71) [.ag (txA t0)] []],[.fn (.func 72) [.ag (txA t0)] []],[.fn (.func 73) [.ag (txA t0)] []],[.fn (.func 74) [.ag (txA t0)] []],[.fn (.func 75) [.ag (txA t0)] []]]]) (f37_l1 t0 k H) h (λ_ h=>by rw[f37_l1] at h;cases h) λn f h=>?_)))
 rw[f37_l1] at h
 refine Rcc 6 q (Ci h q (λh=>?_) λh=>?_)
 refine Rcl 15 q (Ix h e23 dE q Zl q q λI _ h=>(Rl 1 q ?_))
 obtain⟨J,K,h⟩:=ah h
 refine WL.inl (us:=[.d (.ag (R45 I)), .pt 0 0]) (λrv st'=>(∃(g:Bool),J g=some r∧Le rv (.d (D.b g))∧SLe st' [.row 135 (txA t0), .os 24 1 0 [[.fn (.func 68) [.ag (txA t0)] []],[.fn (.func 69) [.ag (txA t0)] []],[.fn (.func 70) [.ag (txA t0)] []],[.fn (.func 71) [.ag (txA t0)] []],[.fn (.func 72) [.ag (txA t0)] []],[.fn (.func 73) [.ag (txA t0)] []],[.fn (.func 74) [.ag (txA t0)] []],[.fn (.func 75) [.ag (txA t0)] []]]])) q q q q q ?_ (Zw q) q q ?_
 refine cI func77 λ_ _ _ _=>?_
 refine Rcl 2 q (Bd q q (Zs _) q (Rll 7 q ?_))
 obtain⟨L,M,h⟩:=aa h
 exact wF Z4 (f78_c M) ⟨(aw (Zs _)),Zl,Zt⟩ Z3 (Rlx 5 q (af (rs1 q (ap q)) ⟨(!L),h,Zl,⟨Zp,Zf,Zt⟩⟩))
 rintro rv st1 ⟨g,h,hr,hst⟩
 subst K
 dsimp only at h
 refine WL.cast 16 q hr (WL.weak hst (Zn (Ci h q (λh=>?_) λh=>?_)))
 exact Rcx 12 q (af (rs1 q (ap q)) ⟨f,h,Zl,⟨Zp,Zf,Zt⟩⟩)
 exact Rcx 7 q (Fn1 h)
 exact Rcx 4 q (En0 h)
 exact Rcx 6 q (af (rs1 q (ap q)) ⟨(-1),h,Zl,⟨Zp,Zf,Zt⟩⟩)
 rintro rv st1 ⟨a,h,hr,hst⟩
 subst G
 dsimp only at h
 exact WL.cast 7 q hr (WL.weak hst (Rl 2 q (Zn (Rcx 1 q (af (rs1 q (ap q)) ⟨(decide (a≥0)),h,Zl,⟨Zp,Zf,Zt⟩⟩)))))
 rintro rv st1 ⟨e,h,hr,hst⟩
 subst F
 dsimp only at h
 exact WL.cast 61 q hr (WL.weak hst (Rl 2 q (Zn (Rcx 1 q (FA h)))))
 exact Rcx 8 q (FA h)

theorem f102_c{r:Rs Unit}(h:f102=some r):CtrP prog 102 [] [] (cX 0 (λr' new=>∃(z:Unit),r= .ok z∧r'= .d (.tu [])∧new=[])) (dU 0 (λc new=>∃(ee:Int),r= .bad ee∧c=cF ee∧new=[])):=by
 unfold f102 at h
 refine bC func102 kR q q q (λmm φφ ww hmm=>?_)
 refine au (WLP.pre 2 (Zq (aB p118 tJ q q) q (Zq (fC (p:= .ag (R118 (nQ.mk 280))) kR q (aw (Zs _))) q (WL.nil (pr q q ?_)))))
 obtain rfl:=Oi h
 exact aV (new:=[]) q Zt ⟨_,q,q,q⟩

theorem f145_c{s0:lI}{v1:Int}{r:Int}(h:f145 s0 v1=some r):Pu prog 145 [.sl (List.map E3 s0), .i .i64 v1] (.i .i64 r):=by
 unfold f145 at h
 refine fI func145 λ_ _=>?_
 refine Rcc 5 q (Jn0 [] [] h (λd h=>?_) λh=>?_)
 refine Rcl 3 q (Zq (ab E3 s0 e96 q q Zl) q (Rlc 4 q (Ln1 (λa=> [(0, .l E3 s0),(1, .n v1),(7, .n (List.length s0:Int)),(8, .n a)]) (λ_=> []) (f145_l1 s0 v1 d) h (λ_ h=>by rw[f145_l1] at h;cases h) λn a h=>?_)))
 rw[f145_l1] at h
 refine Rcc 6 q (Ci h q (λh=>?_) λh=>?_)
 refine Rcl 15 q (Ix h e96 iy q Zl q q λe _ h=>(Rlc 4 q (Ci h q (λh=>?_) λh=>?_)))
 exact Rcx 12 q (FA h)
 exact Rcx 7 q (Fn1 h)
 exact Rcx 4 q (En0 h)
 exact Rcx 6 q (FA h)

theorem f104_c{s0:lI}{v1:Int}{r:Bool}(h:f104 s0 v1=some r):Pu prog 104 [.sl (List.map E3 s0), .i .i64 v1] (.b r):=by
 unfold f104 at h
 refine fI func104 λ_ _=>?_
 refine Rcl 9 q ?_
 obtain⟨d,a,h⟩:=aa h
 exact wF Z4 (f145_c a) Lw Z3 (Rlx 5 q (FA h))

theorem f63_c{o0:Obj}{v1:Int}{r:Bool}(h:f63 o0 v1=some r):Pu prog 63 [.ag (dV o0), .i .i64 v1] (.b r):=by
 unfold f63 at h
 refine fI func63 λ_ _=>?_
 refine Rcl 2 q (Bd q q (Zs _) q (Rlc 10 q (Ci h q (λh=>?_) λh=>?_)))
 refine Rcl 5 q ?_
 obtain⟨a,d,h⟩:=aa h
 refine Gg 10 9 19 a d (λh=>?_) (λh=>?_) ?_
 exact On 10 10 h
 refine Rl 4 q ?_
 obtain⟨f,e,h⟩:=aa h
 refine WL.fn q q q q (f104_c e) Lw (bu q q q) q q (Rl 1 q ?_)
 refine AG 3 15 18 3 3 ?_
 exact On 1 8 h
 exact Rlx 5 q (FA h)
 refine Rcl 9 q ?_
 refine AG 5 24 29 5 5 ?_
 exact Rlx 4 q (FA h)

theorem f67_c{o0:Int}:Pu prog 67 [.i .u8 o0] (.b (f67 o0)):=by
 generalize h:f67 o0=r
 unfold f67 at h
 refine fI func67 λ_ _=>?_
 refine Rcl 10 q ?_
 refine AG 3 5 8 3 3 ?_
 exact Rlx 4 q (FB h)

theorem f36_c{o0:Int}:Pu prog 36 [.i .u8 o0] (.b (f36 o0)):=by
 generalize h:f36 o0=r
 unfold f36 at h
 refine fI func36 λ_ _=>?_
 refine Rcl 10 q ?_
 refine AG 3 5 8 3 3 ?_
 refine Rl 1 q ?_
 apply WL.and 4 (t:=9) (d:=13)
 exact q
 intro a
 exact Rl 1 q (WL.fn q q q q (f67_c) Lw (bu q q q) q q (Rl 2 q (WL.nil ⟨q,[_,_,_,_],q,q,q⟩)))
 exact Rn 4 4
 exact Rlx 4 q (FB h)

theorem f131_c{tR:Nat→Int}{tP:Int}{tX:Int}{tD:Int}{mI:lN}{mH:lH}{mO:lO}{mE:Int}{mN:lI}{mS:lL}{mU:lI}{tA:lA}{vo:Nat}{vf:Nat}{vu:Nat}{va:Nat}{r:Rs ((Nat→Int)×Int×Int×Int)}(h:f131 tR tP tX tD mI mH mO mE mN mS mU tA=some r):CtrP prog 131 [.pt 0 0] (wT tR tP tX tD va mI mH mO mE vo mN vu vf mS mU tA) (cX 6 (λr' new=>∃(z:(Nat→Int)×Int×Int×Int),r= .ok z∧r'= .d (.tu [])∧new=[.row 116 (([.pt 1 0]:lV)++(bf 16 (λj=> .n (z.1 j))++([.n z.2.1, .n z.2.2.1, .n z.2.2.2, .os 5 va]:lV):lV)), .row 90 (mR mI mH mO mE 2 vo mN 4 vu),oS vo 3 vf mS,fS vf mS,uS vu mU, .os 58 6 va (eM R58 tA)])) (dU 6 (λc new=>∃(ee:Int),r= .bad ee∧c=cF ee∧new=(wD mI mH mO mE vo mN vu vf mS mU))):=by
 unfold f131 at h
 refine bC func131 kR q q q (λmm φφ ww hmm=>?_)
 refine Rcl 11 q (sS Z6 s3 Z2 (St q (Rlc 3 q (am kR kR (Rq 12 q (WQ.qn (ab E45 mI e23 q q Zl) q (Rq 1 q (WQ.nil (Rxc 1 q (Ci h q (λh=>?_) λh=>?_))))))))))
 refine au (WLP.wing [] q q q q (f102_c (r:=Rs.bad 280) q) Zt q dC q Zt q q (Zw q) q q (λr' new hS=>?_) λc new hS=>?_)
 obtain⟨z9,hz,_⟩:=hS
 cases hz
 obtain⟨z9,hz,rfl,rfl⟩:=hS
 obtain rfl:=Rs.bad.inj hz
 refine⟨_,q,q,?_⟩
 obtain rfl:=Oi h
 exact aV (new:=(wD mI mH mO mE vo mN vu vf mS mU)) q ⟨Zt,Zp,Zf,Zf,Zf,Zt,Zt⟩ ⟨_,q,q,q⟩
 refine Rcx 1 q (bK ?_)
 obtain rfl:=Oi h
 exact WE.finP (az (new:=[.row 116 (([.pt 1 0]:lV)++(bf 16 (λj=> .n (tR j))++([.n (IntKind.i64.wrap (tP+1)), .n tX, .n tD, .os 5 va]:lV):lV)), .row 90 (mR mI mH mO mE 2 vo mN 4 vu),oS vo 3 vf mS,fS vf mS,uS vu mU, .os 58 6 va (eM R58 tA)]) (r0:= .d (.tu [])) (bT q) (bd Zt) q ⟨Zp,Zp,Zf,Zf,Zf,Zf,Zt⟩ ⟨_,q,q,q⟩)

theorem f100_c(s0:lH)(a:an→oB)(g1:FuncId)(e f:lD)(j:∀(y0:an)(r:Bool),a y0=some r→Pu prog g1 (e++ [.ag (ql y0)]++f) (.b r)){r:Int}(h:f100 s0 a=some r):Pu prog 100 [.sl (List.map cJ s0), .fnc (.func g1) e f] (.i .i64 r):=by
 unfold f100 at h
 refine fI func100 λ_ _=>?_
 refine WC.cast 1 q (fx _ _ _) (Rcc 5 q (Jn0 [] [] h (λk h=>?_) λh=>?_))
 refine Rcl 3 q (Zq (ab cJ s0 e29 q q Zl) q (Rlc 4 q (Ln1 (λg=> [(0, .l cJ s0),(1, .fn (.func g1) (List.map AV.d e) (List.map AV.d f)),(7, .n (List.length s0:Int)),(8, .n g)]) (λ_=> []) (f100_l1 s0 a k) h (λ_ h=>by rw[f100_l1] at h;cases h) λn g h=>?_)))
 rw[f100_l1] at h
 refine Rcc 6 q (Ci h q (λh=>?_) λh=>?_)
 refine Rcl 15 q (Ix h e29 d7 q Zl q q λp _ h=>(Rl 1 q ?_))
 obtain⟨t,m,h⟩:=aa h
 refine WL.fn q q q q (j _ _ m) (jy Lw) (Zw q) q q (Rlc 2 q (Ci h q (λh=>?_) λh=>?_))
 exact Rcx 12 q (FA h)
 exact Rcx 7 q (Fn1 h)
 exact Rcx 4 q (En0 h)
 exact Rcx 6 q (FA h)

theorem f59_c{tR:Nat→Int}{tP:Int}{tX:Int}{tD:Int}{mI:lN}{mH:lH}{mO:lO}{mE:Int}{mN:lI}{mS:lL}{mU:lI}{tA:lA}{c1:Int}{vo:Nat}{vf:Nat}{vu:Nat}{va:Nat}{r:Rs ((Nat→Int)×Int×Int×Int)}(h:f59 tR tP tX tD mI mH mO mE mN mS mU tA c1=some r):CtrP prog 59 [.pt 0 0, .n c1] (wT tR tP tX tD va mI mH mO mE vo mN vu vf mS mU tA) (cX 6 (λr' new=>∃(z:(Nat→Int)×Int×Int×Int),r= .ok z∧r'= .d (.tu [])∧new=[.row 116 (([.pt 1 0]:lV)++(bf 16 (λj=> .n (z.1 j))++([.n z.2.1, .n z.2.2.1, .n z.2.2.2, .os 5 va]:lV):lV)), .row 90 (mR mI mH mO mE 2 vo mN 4 vu),oS vo 3 vf mS,fS vf mS,uS vu mU, .os 58 6 va (eM R58 tA)])) (dU 6 (λc new=>∃(ee:Int),r= .bad ee∧c=cF ee∧new=(wD mI mH mO mE vo mN vu vf mS mU))):=by
 unfold f59 at h
 refine bC func59 kR q q q (λmm φφ ww hmm=>?_)
 refine Rcl 2 q (Bx q q q (WL.s ((gU q q (by exact(show Les [.n c1] (List.map AV.d [.i .i64 c1]) from Lw))).does) (Zw q) q q (Rll 12 q ?_)))
 obtain⟨m,p,h⟩:=ah h
 refine WL.inl (us:=[.l cJ mH, .fn (.func 101) [] [.pt 6 0, .d (.pc (E2 c1))]]) (λrv st'=>(∃(f:Int),m f=some r∧Le rv (.n f)∧SLe st' [.row 116 (tQ 1 tR tP tX tD 5 va), .row 90 (mR mI mH mO mE 2 vo mN 4 vu),oS vo 3 vf mS,fS vf mS,uS vu mU, .os 58 6 va (eM R58 tA), .row 114 [.pt 0 0]])) q q q q q ?_ (Zw q) q q ?_
 refine cI func100 λ_ _ _ A=>?_
 refine Rcc 5 q (Jn0 [] [.row 116 (tQ 1 tR tP tX tD 5 va), .row 90 (mR mI mH mO mE 2 vo mN 4 vu),oS vo 3 vf mS,fS vf mS,uS vu mU, .os 58 6 va (eM R58 tA), .row 114 [.pt 0 0]] h (λw h=>?_) λh=>?_)
 refine Rcl 3 q (Zq (ab cJ mH e29 q q Zl) q (Rlc 4 q (Ln1 (λg=> [(0, .l cJ mH),(1, .fn (.func 101) [] [.pt 6 0, .d (.pc (E2 c1))]),(7, .n (List.length mH:Int)),(8, .n g)]) (λ_=> [.row 116 (tQ 1 tR tP tX tD 5 va), .row 90 (mR mI mH mO mE 2 vo mN 4 vu),oS vo 3 vf mS,fS vf mS,uS vu mU, .os 58 6 va (eM R58 tA), .row 114 [.pt 0 0]]) (f59_l1 tP mH c1 m w) h (λ_ h=>by rw[f59_l1] at h;cases h) λn g h=>?_)))
 rw[f59_l1] at h
 refine Rcc 6 q (Ci h q (λh=>?_) λh=>?_)
 refine Rcl 15 q (Ix h e29 d7 q Zl q q λe _ h=>(Rl 1 q ?_))
 obtain⟨x,y,h⟩:=ah h
 refine WL.inl (us:=[.d (.ag (ql e)), .pt 6 0, .d (.pc (E2 c1))]) (λrv st'=>(x ()=some r∧Le rv (.d (D.b (((decide (e.from_≤tP))&&(decide (tP<e.to)))&&(e.clean||(decide (c1>0))))))∧SLe st' [.row 116 (tQ 1 tR tP tX tD 5 va), .row 90 (mR mI mH mO mE 2 vo mN 4 vu),oS vo 3 vf mS,fS vf mS,uS vu mU, .os 58 6 va (eM R58 tA), .row 114 [.pt 0 0]])) q q q q q ?_ (Zw q) q q ?_
 refine cI func101 λ_ _ _ B=>?_
 refine Rcl 2 q (Bd q q (Zs _) q (Rlc 4 q (am kR kR (Rq 9 q ?_))))
 apply WQ.and 9 (t:=13) (d:=22)
 exact q
 intro C
 exact Rq 9 q (WQ.nil ⟨[_,_,_,_,_,_,_,_,_],q,q,q⟩)
 exact Rq 9 q (WQ.nil ⟨[_,_,_,_,_,_,_,_,_],q,q,q⟩)
 refine Rq 1 q ?_
 apply WQ.and 7 (t:=23) (d:=30)
 exact q
 intro E
 refine Rq 3 q ?_
 apply WQ.or 3 (t:=26) (d:=29)
 exact q
 intro F
 exact Rq 3 q (WQ.nil ⟨[_,_,_],q,q,q⟩)
 exact Rq 3 q (WQ.nil ⟨[_,_,_],q,q,q⟩)
 exact Rq 1 q (WQ.nil ⟨[_,_,_,_,_],q,q,q⟩)
 exact Rq 7 q (WQ.nil ⟨[_,_,_,_,_,_,_],q,q,q⟩)
 exact Rq 1 q (WQ.nil (Rxx 2 q (af (rs1 q (ap q)) ⟨h,Zl,⟨Zp,Zp,Zf,Zf,Zf,Zf,Zp,Zt⟩⟩)))
 rintro rv st1 ⟨h,hr,hst⟩
 subst y
 dsimp only at h
 refine WL.cast 16 q hr (WL.weak hst (Zn (Ci h q (λh=>?_) λh=>?_)))
 exact Rcx 12 q (af (rs1 q (ap q)) ⟨g,h,Zl,⟨Zp,Zp,Zf,Zf,Zf,Zf,Zp,Zt⟩⟩)
 exact Rcx 7 q (Fn1 h)
 exact Rcx 4 q (En0 h)
 exact Rcx 6 q (af (rs1 q (ap q)) ⟨(-1),h,Zl,⟨Zp,Zp,Zf,Zf,Zf,Zf,Zp,Zt⟩⟩)
 rintro rv st1 ⟨f,h,hr,hst⟩
 subst p
 dsimp only at h
 refine WL.cast 14 q hr (WL.weak hst (Rl 1 q (Zn (Rcc 7 q (Ci h q (λh=>?_) λh=>?_)))))
 refine au (WLP.wing [] q q q q (f102_c (r:=Rs.bad 280) q) Zt q dC q Zt q q (Zw q) q q (λr' new hS=>?_) λc new hS=>?_)
 obtain⟨z9,hz,_⟩:=hS
 cases hz
 obtain⟨z9,hz,rfl,rfl⟩:=hS
 obtain rfl:=Rs.bad.inj hz
 refine⟨_,q,q,?_⟩
 refine aU ?_
 obtain rfl:=Oi h
 exact aV (new:=(wD mI mH mO mE vo mN vu vf mS mU)) q ⟨Zt,Zp,Zf,Zf,Zf,Zt,Zt⟩ ⟨_,q,q,q⟩
 refine Rcl 12 q (Ix h e29 d7 q Zl q q λa _ h=>(Rl 1 q (Al pJ q (sS Z6 t8 Z2 (St q (Rlc 3 q ?_))))))
 apply RT [_,_,_,_,_,_,_,_,_,_,_,_, .u] [12] [[.row 116 [.pt 1 0, .n 0, .n 0, .n 0, .n 0, .n 0, .n 0, .n 0, .n 0, .n 0, .n 0, .n 0, .n 0, .n 0, .n 0, .n 0, .n 0, .n a.at_, .n c1, .n tD, .os 5 va], .row 90 (mR mI mH mO mE 2 vo mN 4 vu),oS vo 3 vf mS,fS vf mS,uS vu mU, .os 58 6 va (eM R58 tA), .row 114 [.pt 0 0], .row 108 [.n a.from_, .n a.to, .n a.at_, .d (D.b a.clean)]]] [p01 2,p01 5,p10 1,p01 3,p01 2,p10 4,p10 5,p10 6,p10 7,p30 2 3 8,p10 0,p10 10,p20 11 9] kR kR q q
 refine Y9 ?_
 refine zo (λ_=>Zq (aB p41 z41 q q) q (Zd q q q)) ?_
 refine Y2 ?_
 exact zo (λ_=>sS Z6 s41 Z2 (aY q q)) Zt
 refine Rxc 1 q (Jn1 (λ_=> [(2, .pt 6 0)]) (λk=> [.row 116 [.pt 1 0, .n 0, .n 0, .n 0, .n 0, .n 0, .n 0, .n 0, .n 0, .n 0, .n 0, .n 0, .n 0, .n 0, .n 0, .n 0, .n 0, .n a.at_, .n c1, .n k, .os 5 va], .row 90 (mR mI mH mO mE 2 vo mN 4 vu),oS vo 3 vf mS,fS vf mS,uS vu mU, .os 58 6 va (eM R58 tA), .row 114 [.pt 0 0], .row 108 [.n a.from_, .n a.to, .n a.at_, .d (D.b a.clean)]]) h (λ_ h=>?_) λk h=>?_)
 exact Rcc 6 q (Ci h q (λh=>Rcl 10 q (sS Z6 s3 Z2 (St q (Rlx 1 q (En1 h))))) λh=>Rcx 1 q (En1 h))
 refine Rcc 10 q (Ci h q (λh=>?_) λh=>?_)
 refine au (WLP.wing [] q q q q (f102_c (r:=Rs.bad 280) q) Zt q dC q Zt q q (Zw q) q q (λr' new hS=>?_) λc new hS=>?_)
 obtain⟨z9,hz,_⟩:=hS
 cases hz
 obtain⟨z9,hz,rfl,rfl⟩:=hS
 obtain rfl:=Rs.bad.inj hz
 refine⟨_,q,q,?_⟩
 obtain rfl:=Oi h
 exact aV (new:=(wD mI mH mO mE vo mN vu vf mS mU)) q ⟨Zt,Zp,Zf,Zf,Zf,Zt,Zt⟩ ⟨_,q,q,q⟩
 refine Rcx 1 q (bK ?_)
 obtain rfl:=Oi h
 exact WE.finP (az (new:=[.row 116 (([.pt 1 0]:lV)++(bf 16 (λj=> .n ((λj=>0) j))++([.n a.at_, .n c1, .n k, .os 5 va]:lV):lV)), .row 90 (mR mI mH mO mE 2 vo mN 4 vu),oS vo 3 vf mS,fS vf mS,uS vu mU, .os 58 6 va (eM R58 tA)]) (r0:= .d (.tu [])) (bT q) (bd Zt) q ⟨Zp,Zp,Zf,Zf,Zf,Zf,Zt⟩ ⟨_,q,q,q⟩)

theorem f56_c{tR:Nat→Int}{tP:Int}{tX:Int}{tD:Int}{mI:lN}{mH:lH}{mO:lO}{mE:Int}{mN:lI}{mS:lL}{mU:lI}{tA:lA}{n1:Int}{vo:Nat}{vf:Nat}{vu:Nat}{va:Nat}{r:Rs ((Nat→Int)×Int×Int×Int×lA)}(h:f56 tR tP tX tD mI mH mO mE mN mS mU tA n1=some r):CtrP prog 56 [.pt 0 0, .n n1] (wT tR tP tX tD va mI mH mO mE vo mN vu vf mS mU tA) (cX 6 (λr' new=>∃(z:(Nat→Int)×Int×Int×Int×lA)(i5:Nat),r= .ok z∧r'= .d (.tu [])∧new=[.row 116 (([.pt 1 0]:lV)++(bf 16 (λj=> .n (z.1 j))++([.n z.2.1, .n z.2.2.1, .n z.2.2.2.1, .os 5 i5]:lV):lV)), .row 90 (mR mI mH mO mE 2 vo mN 4 vu),oS vo 3 vf mS,fS vf mS,uS vu mU, .os 58 6 i5 (eM R58 z.2.2.2.2)])) (dU 6 (λc new=>∃(ee:Int),r= .bad ee∧c=cF ee∧new=(wD mI mH mO mE vo mN vu vf mS mU))):=by
 unfold f56 at h
 refine bC func56 kR q q q (λmm φφ ww hmm=>?_)
 refine Rcc 1 q (au (WLP.pre 2 (Rl 2 q (WL.nil ?_))))
 obtain⟨f,e,h⟩:=aa h
 rcases f with a|e23
 dsimp only[Rs.cs] at h
 refine WLP.wing [0,1,2,3,4,5] q q q q (f59_c e) Lw q dC (Re (Re (Rg (Rf (Ro (Ro q)))))) ⟨q,q,q,q,q,q,Zt⟩ Kv q (Zw q) q q (λr' new hS=>?_) (λc new hS=>?_)
 obtain⟨z9,hz,rfl,rfl⟩:=hS
 obtain rfl:=Rs.ok.inj hz
 refine⟨_,_,q,(Re (Re (Rg (Rf (Ro (Ro q)))))),q,Kv,WLP.of ?_⟩
 refine St q (Zn (Rcl 7 q (Zq (aB p58 z58 q q) q (WL.s ((NewOs.b (aJ l50 z58 q dC dC q q q dC)).does) (Zw q) q q ?_))))
 replace h:=av h
 obtain⟨g,h⟩:=h
 refine WL.s (bR R58 tA [(Act.mk 0 0 5 n1 0 0)] l50 z58 q dC q q q q (Src.own q) (λ_=>q) (λ_=>q) g) (Zw q) q q (Rl 2 q (WL.s0 (ct q q q (dc q) s50 q) (Zw q) q (St q (Rlx 1 q (bK ?_)))))
 obtain rfl:=Oi h
 exact WE.finP (az (new:=[.row 116 (([.pt 1 0]:lV)++(bf 16 (λj=> .n (a.1 j))++([.n a.2.1, .n a.2.2.1, .n a.2.2.2, .os 5 (va+1)]:lV):lV)), .row 90 (mR mI mH mO mE 2 vo mN 4 vu),oS vo 3 vf mS,fS vf mS,uS vu mU, .os 58 6 (va+1) (eM R58 (tA++ [(Act.mk 0 0 5 n1 0 0)]))]) (r0:= .d (.tu [])) (bT q) (bd Zt) q ⟨Zp,Zp,Zf,Zf,Zf,Zf,Zt⟩ ⟨_,(va+1),q,q,q⟩)
 obtain⟨z9,hz,_⟩:=hS
 cases hz
 dsimp only[Rs.cs] at h
 refine WLP.wing [0,1,2,3,4,5] q q q q (f59_c e) Lw q dC (Re (Re (Rg (Rf (Ro (Ro q)))))) ⟨q,q,q,q,q,q,Zt⟩ Kv q (Zw q) q q (λr' new hS=>?_) (λc new hS=>?_)
 obtain⟨z9,hz,_⟩:=hS
 cases hz
 obtain⟨z9,hz,rfl,rfl⟩:=hS
 obtain rfl:=Rs.bad.inj hz
 refine⟨_,(Re (Re (Rg (Rf (Ro (Re q)))))),Kv,?_⟩
 refine cv (st':=(wD mI mH mO mE vo mN vu vf mS mU)) q (aU ?_)
 obtain rfl:=Oi h
 exact aV (new:=(wD mI mH mO mE vo mN vu vf mS mU)) q ⟨Zt,Zp,Zf,Zf,Zf,Zt,Zt⟩ ⟨_,q,q,q⟩

theorem f81_c{tR:Nat→Int}{tP:Int}{tX:Int}{tD:Int}{mI:lN}{mH:lH}{mO:lO}{mE:Int}{mN:lI}{mS:lL}{mU:lI}{tA:lA}{x1:ak}{vo:Nat}{vf:Nat}{vu:Nat}{va:Nat}{r:Rs ((Nat→Int)×Int×Int×Int)}(h:f81 tR tP tX tD mI mH mO mE mN mS mU tA x1=some r):CtrP prog 81 [.pt 0 0, .d (.ag (R45 x1))] (wT tR tP tX tD va mI mH mO mE vo mN vu vf mS mU tA) (cX 6 (λr' new=>∃(z:(Nat→Int)×Int×Int×Int),r= .ok z∧r'= .d (.tu [])∧new=[.row 116 (([.pt 1 0]:lV)++(bf 16 (λj=> .n (z.1 j))++([.n z.2.1, .n z.2.2.1, .n z.2.2.2, .os 5 va]:lV):lV)), .row 90 (mR mI mH mO mE 2 vo mN 4 vu),oS vo 3 vf mS,fS vf mS,uS vu mU, .os 58 6 va (eM R58 tA)])) (dU 6 (λc new=>∃(ee:Int),r= .bad ee∧c=cF ee∧new=(wD mI mH mO mE vo mN vu vf mS mU))):=by
 unfold f81 at h
 refine bC func81 kR q q q (λmm φφ ww hmm=>?_)
 refine Rcl 2 q (Bd q q (Zs _) q (Rlc 3 q (au (WLP.pre 2 (Rl 2 q (WL.nil ?_))))))
 obtain⟨S,T,h⟩:=ah h
 obtain⟨U,V,h⟩:=ah h
 refine WLP.inl (us:=[.pt 0 0, .d (.ag (R45 x1))]) (λrv st'=>(∃(e:Obj),∃(J:Int),∃(C:Int),∃(k:Int),∃(p:Int),∃(w:Int),∃(y:Bool),∃(A:lI),U e J C k p w y A=some r∧Le rv (.tu [.pem 3 (Int.toNat J) vf (Int.toNat C*1), .d (.ag (dV e))])∧SLe st' [.row 116 (tQ 1 tR tP tX tD 5 va), .row 90 (mR mI mH mO mE 2 vo mN 4 vu),oS vo 3 vf mS,fS vf mS,uS vu mU, .os 58 6 va (eM R58 tA), .row 101 [.n k, .n p, .n w, .d (D.b y), .l E3 A]])) (λc st'=>(S ()=some r∧c=cF 280∧SLe st' [.row 116 (tQ 1 tR tP tX tD 5 va), .row 90 (mR mI mH mO mE 2 vo mN 4 vu),oS vo 3 vf mS,fS vf mS,uS vu mU, .os 58 6 va (eM R58 tA), .row 101 [.n 0, .n 0, .n 0, .d (D.b false),sN]])) q q q q q ?_ (Zw q) q q ?_ ?_
 refine bC func130 kR q q q (λmm φφ ww bb=>?_)
 refine Rcl 2 q (Bd q q (Zs _) q (Rl 1 q (Al lw q (Rlc 3 q (am kR kR (Rq 6 q (WQ.nil (Rxc 2 q (am kR kR (Rq 6 q ?_))))))))))
 replace h:=av h
 obtain⟨K,h⟩:=h
 refine WQ.qn (ar dG q q (bx K) (bw K)) q (WQ.qn (bJ (off:=1) (n:=16) (λj=> .n (tR j)) q q a2 q K) q (Rq 1 q (WQ.nil (Rxc 1 q (Jn2 (λg B=> [(0, .pt 0 0),(5, .pt 6 0),(6, .n g),(7, .n B)]) (λ_ _=> [.row 116 (tQ 1 tR tP tX tD 5 va), .row 90 (mR mI mH mO mE 2 vo mN 4 vu),oS vo 3 vf mS,fS vf mS,uS vu mU, .os 58 6 va (eM R58 tA), .row 101 [.n 0, .n 0, .n 0, .d (D.b false),sN]]) h (λ_ h=>?_) λg B h=>?_)))))
 refine Rcc 7 q (Jn1 (λO=> [(0, .pt 0 0),(3, .d (.pc (R45 x1))),(5, .pt 6 0),(6, .n x1.n),(7, .n x1.m),(8, .n (tR (Int.toNat x1.a))),(23, .d (D.i .u8 x1.op)),(24, .d (D.b O))]) (λ_=> [.row 116 (tQ 1 tR tP tX tD 5 va), .row 90 (mR mI mH mO mE 2 vo mN 4 vu),oS vo 3 vf mS,fS vf mS,uS vu mU, .os 58 6 va (eM R58 tA), .row 101 [.n 0, .n 0, .n 0, .d (D.b false),sN]]) h (λ_ h=>?_) λO h=>?_)
 exact Rcc 6 q (Ci h q (λh=>Rcx 1 q (En1 h)) λh=>Rcx 4 q (En1 h))
 refine Ci h q (λh=>?_) (λh=>?_)
 refine Rcl 6 q ?_
 refine OG 5 29 34 5 5 ?_
 refine Rlc 2 q (Ci h q (λh=>?_) λh=>?_)
 refine au (WLP.wing [] q q q q (f102_c (r:=Rs.bad 280) q) Zt q dC q Zt q q (Zw q) q q (λr' new hS=>?_) λc new hS=>?_)
 obtain⟨z9,hz,_⟩:=hS
 cases hz
 obtain⟨z9,hz,rfl,rfl⟩:=hS
 obtain rfl:=Rs.bad.inj hz
 refine⟨_,q,q,?_⟩
 exact aU (bG (gj (iC ⟨h,q,⟨Zp,Zp,Zf,Zf,Zf,Zf,Zp,Zt⟩⟩)))
 exact Rcx 9 q (En2 h)
 refine Jn1 (λP=> [(0, .pt 0 0),(5, .pt 6 0),(6, .n x1.n),(7, .n x1.m),(8, .n (tR (Int.toNat x1.a))),(39, .d (D.b P))]) (λ_=> [.row 116 (tQ 1 tR tP tX tD 5 va), .row 90 (mR mI mH mO mE 2 vo mN 4 vu),oS vo 3 vf mS,fS vf mS,uS vu mU, .os 58 6 va (eM R58 tA), .row 101 [.n 0, .n 0, .n 0, .d (D.b false),sN]]) h (λ_ h=>?_) (λP h=>?_)
 exact Rcc 6 q (Ci h q (λh=>Rcx 1 q (En1 h)) λh=>Rcx 4 q (En1 h))
 refine Ci h q (λh=>?_) (λh=>?_)
 refine Rcl 6 q ?_
 apply WL.or 11 (t:=44) (d:=55)
 exact q
 intro bk
 exact Rl 8 q (Zy (ab cL mO e33 q q Zl) q q q (Rl 2 q (WL.nil ⟨q,[_,_,_,_,_,_,_,_,_,_,_],q,q,q⟩)))
 exact Rn 11 11
 refine Rlc 2 q (Ci h q (λh=>?_) λh=>?_)
 refine au (WLP.wing [] q q q q (f102_c (r:=Rs.bad 280) q) Zt q dC q Zt q q (Zw q) q q (λr' new hS=>?_) λc new hS=>?_)
 obtain⟨z9,hz,_⟩:=hS
 cases hz
 obtain⟨z9,hz,rfl,rfl⟩:=hS
 obtain rfl:=Rs.bad.inj hz
 refine⟨_,q,q,?_⟩
 exact aU (bG (gj (iC ⟨h,q,⟨Zp,Zp,Zf,Zf,Zf,Zf,Zp,Zt⟩⟩)))
 exact Rcx 9 q (En2 h)
 exact Rcx 2 q (En2 h)
 refine Rcl 8 q ?_
 obtain⟨W,X,h⟩:=ah h
 obtain⟨Y,Z,h⟩:=ah h
 refine WL.inl (us:=[.pt 1 0, .n g, .n B]) (λrv st'=>(W ()=some r∧Le rv (.d (.v (.pointer none)))∧SLe st' [.row 116 (tQ 1 tR tP tX tD 5 va), .row 90 (mR mI mH mO mE 2 vo mN 4 vu),oS vo 3 vf mS,fS vf mS,uS vu mU, .os 58 6 va (eM R58 tA), .row 101 [.n 0, .n 0, .n 0, .d (D.b false),sN]])∨(Y ()=some r∧Le rv (.pem 3 (Int.toNat g) vf (Int.toNat B*1))∧SLe st' [.row 116 (tQ 1 tR tP tX tD 5 va), .row 90 (mR mI mH mO mE 2 vo mN 4 vu),oS vo 3 vf mS,fS vf mS,uS vu mU, .os 58 6 va (eM R58 tA), .row 101 [.n 0, .n 0, .n 0, .d (D.b false),sN]])) q q q q q ?_ (Zw q) q q ?_
 refine cI func61 λ_ _ _ _=>?_
 refine Rcl 11 q ?_
 apply WL.or 8 (t:=9) (d:=17)
 exact q
 intro bo
 exact Rl 5 q (Zy (gh e62 q q q) q q q (Rl 2 q (WL.nil ⟨q,[_,_,_,_,_,_,_,_],q,q,q⟩)))
 exact Rn 8 8
 refine Rl 1 q ?_
 refine OG 3 18 21 3 3 ?_
 refine Rl 1 q ?_
 obtain⟨ad,ax,h⟩:=aa h
 refine Gg 11 22 33 ad ax (λh=>?_) (λh=>?_) ?_
 exact On 11 11 h
 refine Rl 6 q ?_
 obtain⟨bs,F,h⟩:=aa h
 exact Zy (dn e62 q q q (ae F) (dw F)) q q q (Zy (ef (i:=g) q q a42 (bQ F)) q q q (Zy (kN e42 q q q (bB F)) q q q (On 2 11 h)))
 refine Rlc 2 q (Ci h q (λh=>Rcx 7 q (af (rs1 q (ap q)) (.inl ⟨h,Zl,⟨Zp,Zp,Zf,Zf,Zf,Zf,Zp,Zt⟩⟩))) λh=>?_)
 refine Rcl 9 q ?_
 obtain⟨a0,G,h⟩:=aa h
 refine Zq (dn e62 q q q (ae G) (dw G)) q (Zq (ef (i:=g) q q a42 (bQ G)) q (Rl 1 q ?_))
 obtain⟨a1,a6,h⟩:=aa h
 exact Zq (kO (E:=E2) (L:=mS) (M:=a0) (v:=a1) e42 q q (bB G) q a6) q (Rlx 4 q (af (rs1 q (ap q)) (.inr (⟨h,Zl,⟨Zp,Zp,Zf,Zf,Zf,Zf,Zp,Zt⟩⟩))))
 rintro rv st1 (⟨h,hr,hst⟩|⟨h,hr,hst⟩)
 subst X
 dsimp only at h
 refine WL.cast 65 q hr (WL.weak hst (Rl 1 q (Zn (Rcl 4 q (Zq (oc underlying128 q) q (Rlc 2 q (bF q (au (WLP.wing [] q q q q (f102_c (r:=Rs.bad 280) q) Zt q dC q Zt q q (Zw q) q q (λr' new hS=>?_) λc new hS=>?_)))))))))
 obtain⟨z9,hz,_⟩:=hS
 cases hz
 obtain⟨z9,hz,rfl,rfl⟩:=hS
 obtain rfl:=Rs.bad.inj hz
 refine⟨_,q,q,?_⟩
 exact aU (iC ⟨h,q,⟨Zp,Zp,Zf,Zf,Zf,Zf,Zp,Zt⟩⟩)
 subst Z
 dsimp only at h
 refine WL.cast 65 q hr (WL.weak hst (Rl 1 q (Zn (Rcl 4 q (Zq (qx underlying128 q q) q (Rlc 2 q (aW q (Rcc 3 q ?_))))))))
 obtain⟨f,Q,h⟩:=aa h
 apply RT [_,_,_,_,_,_,_,_,_,_,_,_, .u] [12] [[.row 116 (tQ 1 tR tP tX tD 5 va), .row 90 (mR mI mH mO mE 2 vo mN 4 vu),oS vo 3 vf mS,fS vf mS,uS vu mU, .os 58 6 va (eM R58 tA), .row 101 [.n f.size, .n f.lo, .n f.hi, .d (D.b f.ptr), .l E3 f.set_]]] [p01 9,p01 0,p10 1,p10 2,p10 3,p10 4,p10 5,p10 6,p01 6,p20 7 8,p10 9,p10 0,p11 10 5] kR kR q q
 refine Y9 ?_
 refine zo (λ_=>Zq (aj e33 q Zl q (ae Q) (aR cg Q) q) q (Zd q q q)) ?_
 refine Y2 ?_
 exact zo (λ_=>sS Z6 mY Z2 (aY q q)) Zt
 exact Rxx 2 q (WE.finP (af (rs2 q (ap q) (cz q q a101 mY q)) ⟨f,g,B,f.size,f.lo,f.hi,f.ptr,f.set_,h,(Le.tu ⟨Zl,(aw (Zs _)),Zt⟩),⟨Zp,Zp,Zf,Zf,Zf,Zf,Zp,Zt⟩⟩))
 rintro rv st1 ⟨e,J,C,k,p,w,y,A,h,hr,hst⟩
 subst V
 dsimp only at h
 refine WLP.of (WL.cast 9 q hr (WL.weak hst (Rl 3 q (Al lw q (Rl 1 q (sS Z6 mY Z2 (St q (Zn (Rcc 1 q ?_)))))))))
 obtain⟨a7,a8,h⟩:=aa h
 obtain⟨H,a9,h⟩:=aa h
 replace h:=av h
 obtain⟨N,h⟩:=h
 apply RT [_,_,_,_,_,_,_,_,_,_, .u] [10] [[.row 116 (([.pt 1 0]:lV)++(bf 16 (λj=> .n ((c8 tR (Int.toNat x1.d) H) j))++([.n tP, .n tX, .n tD, .os 5 va]:lV):lV)), .row 90 (mR mI mH mO mE 2 vo mN 4 vu),oS vo 3 vf mS,fS vf mS,uS vu mU, .os 58 6 va (eM R58 tA), .row 101 [.n k, .n p, .n w, .d (D.b y), .l E3 A], .row 101 [.n e.size, .n e.lo, .n e.hi, .d (D.b e.ptr), .l E3 e.set_]]] [p01 0,p01 3,p10 1,p01 4,p10 3,p10 4,p10 0,p10 6,p10 7,p20 8 2,p20 9 5] kR kR q q
 refine Y4 ?_
 refine zo (λ_=>Zq (iX q q) q (Zd q q q)) ?_
 refine zo (λ_=>Zq (n9 (E:=E2) (L:=mS) (M:=a7) (v:=H) (i:=C) q q (bB a8) a9 (λ_=>q) dC q a2) q (Zd q q q)) ?_
 refine Y3 ?_
 refine zo (λ_=>Zq (ar dG q q (bx N) (bw N)) q (Zd q q q)) ?_
 exact zo (λ_=>WL.s0 (eV (off:=1) (n:=16) (cs':=(([.pt 1 0]:lV)++(bf 16 (λj=> .n ((c8 tR (Int.toNat x1.d) H) j))++([.n tP, .n tX, .n tD, .os 5 va]:lV):lV))) (λx=> .n x) tR H q q q (iJ q) s2 q q N q) (Zw q) q (aY q q)) Zt
 refine Rxc 1 q (au (WLP.pre 1 (Rl 1 q (WL.nil ?_))))
 obtain⟨a',R,h⟩:=aa h
 rcases a' with I|e71
 dsimp only[Rs.cs] at h
 refine WLP.wing [0,1,2,3,4,5] q q q q (f131_c R) Lw q dC (Re (Re (Rg (Rf (Ro (Ro q)))))) ⟨q,q,q,q,q,q,Zt⟩ Kv q (Zw q) q q (λr' new hS=>?_) (λc new hS=>?_)
 obtain⟨z9,hz,rfl,rfl⟩:=hS
 obtain rfl:=Rs.ok.inj hz
 refine⟨_,_,q,(Re (Re (Rg (Rf (Ro (Ro q)))))),q,Kv,WLP.of ?_⟩
 refine St q (WL.nil (bK ?_))
 obtain rfl:=Oi h
 exact WE.finP (az (new:=[.row 116 (([.pt 1 0]:lV)++(bf 16 (λj=> .n (I.1 j))++([.n I.2.1, .n I.2.2.1, .n I.2.2.2, .os 5 va]:lV):lV)), .row 90 (mR mI mH mO mE 2 vo mN 4 vu),oS vo 3 vf mS,fS vf mS,uS vu mU, .os 58 6 va (eM R58 tA)]) (r0:= .d (.tu [])) (bT q) (bd Zt) q ⟨Zp,Zp,Zf,Zf,Zf,Zf,Zt⟩ ⟨_,q,q,q⟩)
 obtain⟨z9,hz,_⟩:=hS
 cases hz
 dsimp only[Rs.cs] at h
 refine WLP.wing [0,1,2,3,4,5] q q q q (f131_c R) Lw q dC (Re (Re (Rg (Rf (Ro (Ro q)))))) ⟨q,q,q,q,q,q,Zt⟩ Kv q (Zw q) q q (λr' new hS=>?_) (λc new hS=>?_)
 obtain⟨z9,hz,_⟩:=hS
 cases hz
 obtain⟨z9,hz,rfl,rfl⟩:=hS
 obtain rfl:=Rs.bad.inj hz
 refine⟨_,(Re (Re (Rg (Rf (Ro (Re q)))))),Kv,?_⟩
 refine cv (st':=[.z, .row 90 (mR mI mH mO mE 2 vo mN 4 vu),oS vo 3 vf mS,fS vf mS,uS vu mU, .z, .row 101 [.n k, .n p, .n w, .d (D.b y), .l E3 A], .row 101 [.n e.size, .n e.lo, .n e.hi, .d (D.b e.ptr), .l E3 e.set_]]) q ?_
 obtain rfl:=Oi h
 exact aV (new:=(wD mI mH mO mE vo mN vu vf mS mU)) q ⟨Zt,Zp,Zf,Zf,Zf,Zt,Zt⟩ ⟨_,q,q,q⟩
 rintro c st1 ⟨h,rfl,hst⟩
 subst T
 dsimp only at h
 refine WE.weak hst (aU ?_)
 obtain rfl:=Oi h
 exact aV (new:=(wD mI mH mO mE vo mN vu vf mS mU)) q ⟨Zt,Zp,Zf,Zf,Zf,Zt,Zt⟩ ⟨_,q,q,q⟩

theorem f82_c{tR:Nat→Int}{tP:Int}{tX:Int}{tD:Int}{mI:lN}{mH:lH}{mO:lO}{mE:Int}{mN:lI}{mS:lL}{mU:lI}{tA:lA}{x1:ak}{vo:Nat}{vf:Nat}{vu:Nat}{va:Nat}{r:Rs ((Nat→Int)×Int×Int×Int×lL)}(h:f82 tR tP tX tD mI mH mO mE mN mS mU tA x1=some r):CtrP prog 82 [.pt 0 0, .d (.ag (R45 x1))] (wT tR tP tX tD va mI mH mO mE vo mN vu vf mS mU tA) (cX 6 (λr' new=>∃(z:(Nat→Int)×Int×Int×Int×lL)(i3:Nat),r= .ok z∧r'= .d (.tu [])∧new=[.row 116 (([.pt 1 0]:lV)++(bf 16 (λj=> .n (z.1 j))++([.n z.2.1, .n z.2.2.1, .n z.2.2.2.1, .os 5 va]:lV):lV)), .row 90 (mR mI mH mO mE 2 vo mN 4 vu), .os 42 1 vo (bg 3 i3 (List.length z.2.2.2.2)), .fam 2 1 i3 (bc E2 z.2.2.2.2),uS vu mU, .os 58 6 va (eM R58 tA)])) (dU 6 (λc new=>∃(ee:Int),r= .bad ee∧c=cF ee∧new=(wD mI mH mO mE vo mN vu vf mS mU))):=by
 unfold f82 at h
 refine bC func82 kR q q q (λmm φφ ww hmm=>?_)
 refine Rcl 2 q (Bd q q (Zs _) q (Rlc 3 q (am kR kR (Rq 6 q ?_))))
 replace h:=av h
 obtain⟨K,h⟩:=h
 refine WQ.qn (ar dG q q (bx K) (bw K)) q (WQ.qn (bJ (off:=1) (n:=16) (λj=> .n (tR j)) q q a2 q K) q (Rq 1 q (WQ.nil (Rxc 1 q (Jn1 (λp=> [(0, .pt 0 0),(3, .d (.pc (R45 x1))),(4, .n p)]) (λ_=>(wT tR tP tX tD va mI mH mO mE vo mN vu vf mS mU tA)) h (λ_ h=>?_) λp h=>?_)))))
 refine Rcc 7 q (Ci h q (λh=>?_) λh=>?_)
 refine am kR kR (Rq 6 q ?_)
 replace h:=av h
 obtain⟨N,h⟩:=h
 exact WQ.qn (ar dG q q (bx N) (bw N)) q (WQ.qn (bJ (off:=1) (n:=16) (λj=> .n (tR j)) q q a2 q N) q (Rq 1 q (WQ.nil (En1 h))))
 exact Rcx 1 q (En1 h)
 refine Rcc 1 q (au (WLP.pre 2 (Rl 2 q (WL.nil ?_))))
 obtain⟨T,U,h⟩:=ah h
 obtain⟨V,W,h⟩:=ah h
 refine WLP.inl (us:=[.pt 0 0, .d (.ag (R45 x1))]) (λrv st'=>(∃(e:Obj),∃(w:Int),∃(k:Int),∃(y:Int),∃(A:Int),∃(B:Int),∃(C:Bool),∃(F:lI),V e w k y A B C F=some r∧Le rv (.tu [.pem 3 (Int.toNat w) vf (Int.toNat k*1), .d (.ag (dV e))])∧SLe st' [.row 116 (tQ 1 tR tP tX tD 5 va), .row 90 (mR mI mH mO mE 2 vo mN 4 vu),oS vo 3 vf mS,fS vf mS,uS vu mU, .os 58 6 va (eM R58 tA), .row 101 [.n y, .n A, .n B, .d (D.b C), .l E3 F]])) (λc st'=>(T ()=some r∧c=cF 280∧SLe st' [.row 116 (tQ 1 tR tP tX tD 5 va), .row 90 (mR mI mH mO mE 2 vo mN 4 vu),oS vo 3 vf mS,fS vf mS,uS vu mU, .os 58 6 va (eM R58 tA), .row 101 [.n 0, .n 0, .n 0, .d (D.b false),sN]])) q q q q q ?_ (Zw q) q q ?_ ?_
 refine bC func130 kR q q q (λmm φφ ww bo=>?_)
 refine Rcl 2 q (Bd q q (Zs _) q (Rl 1 q (Al lw q (Rlc 3 q (am kR kR (Rq 6 q (WQ.nil (Rxc 2 q (am kR kR (Rq 6 q ?_))))))))))
 replace h:=av h
 obtain⟨O,h⟩:=h
 refine WQ.qn (ar dG q q (bx O) (bw O)) q (WQ.qn (bJ (off:=1) (n:=16) (λj=> .n (tR j)) q q a2 q O) q (Rq 1 q (WQ.nil (Rxc 1 q (Jn2 (λx H=> [(0, .pt 0 0),(5, .pt 6 0),(6, .n x),(7, .n H)]) (λ_ _=> [.row 116 (tQ 1 tR tP tX tD 5 va), .row 90 (mR mI mH mO mE 2 vo mN 4 vu),oS vo 3 vf mS,fS vf mS,uS vu mU, .os 58 6 va (eM R58 tA), .row 101 [.n 0, .n 0, .n 0, .d (D.b false),sN]]) h (λ_ h=>?_) λx H h=>?_)))))
 refine Rcc 7 q (Jn1 (λP=> [(0, .pt 0 0),(3, .d (.pc (R45 x1))),(5, .pt 6 0),(6, .n x1.n),(7, .n x1.m),(8, .n (tR (Int.toNat x1.a))),(23, .d (D.i .u8 x1.op)),(24, .d (D.b P))]) (λ_=> [.row 116 (tQ 1 tR tP tX tD 5 va), .row 90 (mR mI mH mO mE 2 vo mN 4 vu),oS vo 3 vf mS,fS vf mS,uS vu mU, .os 58 6 va (eM R58 tA), .row 101 [.n 0, .n 0, .n 0, .d (D.b false),sN]]) h (λ_ h=>?_) λP h=>?_)
 exact Rcc 6 q (Ci h q (λh=>Rcx 1 q (En1 h)) λh=>Rcx 4 q (En1 h))
 refine Ci h q (λh=>?_) (λh=>?_)
 refine Rcl 6 q ?_
 refine OG 5 29 34 5 5 ?_
 refine Rlc 2 q (Ci h q (λh=>?_) λh=>?_)
 refine au (WLP.wing [] q q q q (f102_c (r:=Rs.bad 280) q) Zt q dC q Zt q q (Zw q) q q (λr' new hS=>?_) λc new hS=>?_)
 obtain⟨z9,hz,_⟩:=hS
 cases hz
 obtain⟨z9,hz,rfl,rfl⟩:=hS
 obtain rfl:=Rs.bad.inj hz
 refine⟨_,q,q,?_⟩
 exact aU (bG (gj (iC ⟨h,q,⟨Zp,Zp,Zf,Zf,Zf,Zf,Zp,Zt⟩⟩)))
 exact Rcx 9 q (En2 h)
 refine Jn1 (λQ=> [(0, .pt 0 0),(5, .pt 6 0),(6, .n x1.n),(7, .n x1.m),(8, .n (tR (Int.toNat x1.a))),(39, .d (D.b Q))]) (λ_=> [.row 116 (tQ 1 tR tP tX tD 5 va), .row 90 (mR mI mH mO mE 2 vo mN 4 vu),oS vo 3 vf mS,fS vf mS,uS vu mU, .os 58 6 va (eM R58 tA), .row 101 [.n 0, .n 0, .n 0, .d (D.b false),sN]]) h (λ_ h=>?_) (λQ h=>?_)
 exact Rcc 6 q (Ci h q (λh=>Rcx 1 q (En1 h)) λh=>Rcx 4 q (En1 h))
 refine Ci h q (λh=>?_) (λh=>?_)
 refine Rcl 6 q ?_
 apply WL.or 11 (t:=44) (d:=55)
 exact q
 intro bs
 exact Rl 8 q (Zy (ab cL mO e33 q q Zl) q q q (Rl 2 q (WL.nil ⟨q,[_,_,_,_,_,_,_,_,_,_,_],q,q,q⟩)))
 exact Rn 11 11
 refine Rlc 2 q (Ci h q (λh=>?_) λh=>?_)
 refine au (WLP.wing [] q q q q (f102_c (r:=Rs.bad 280) q) Zt q dC q Zt q q (Zw q) q q (λr' new hS=>?_) λc new hS=>?_)
 obtain⟨z9,hz,_⟩:=hS
 cases hz
 obtain⟨z9,hz,rfl,rfl⟩:=hS
 obtain rfl:=Rs.bad.inj hz
 refine⟨_,q,q,?_⟩
 exact aU (bG (gj (iC ⟨h,q,⟨Zp,Zp,Zf,Zf,Zf,Zf,Zp,Zt⟩⟩)))
 exact Rcx 9 q (En2 h)
 exact Rcx 2 q (En2 h)
 refine Rcl 8 q ?_
 obtain⟨X,Y,h⟩:=ah h
 obtain⟨Z,ad,h⟩:=ah h
 refine WL.inl (us:=[.pt 1 0, .n x, .n H]) (λrv st'=>(X ()=some r∧Le rv (.d (.v (.pointer none)))∧SLe st' [.row 116 (tQ 1 tR tP tX tD 5 va), .row 90 (mR mI mH mO mE 2 vo mN 4 vu),oS vo 3 vf mS,fS vf mS,uS vu mU, .os 58 6 va (eM R58 tA), .row 101 [.n 0, .n 0, .n 0, .d (D.b false),sN]])∨(Z ()=some r∧Le rv (.pem 3 (Int.toNat x) vf (Int.toNat H*1))∧SLe st' [.row 116 (tQ 1 tR tP tX tD 5 va), .row 90 (mR mI mH mO mE 2 vo mN 4 vu),oS vo 3 vf mS,fS vf mS,uS vu mU, .os 58 6 va (eM R58 tA), .row 101 [.n 0, .n 0, .n 0, .d (D.b false),sN]])) q q q q q ?_ (Zw q) q q ?_
 refine cI func61 λ_ _ _ _=>?_
 refine Rcl 11 q ?_
 apply WL.or 8 (t:=9) (d:=17)
 exact q
 intro b0
 exact Rl 5 q (Zy (gh e62 q q q) q q q (Rl 2 q (WL.nil ⟨q,[_,_,_,_,_,_,_,_],q,q,q⟩)))
 exact Rn 8 8
 refine Rl 1 q ?_
 refine OG 3 18 21 3 3 ?_
 refine Rl 1 q ?_
 obtain⟨ax,a0,h⟩:=aa h
 refine Gg 11 22 33 ax a0 (λh=>?_) (λh=>?_) ?_
 exact On 11 11 h
 refine Rl 6 q ?_
 obtain⟨b1,I,h⟩:=aa h
 exact Zy (dn e62 q q q (ae I) (dw I)) q q q (Zy (ef (i:=x) q q a42 (bQ I)) q q q (Zy (kN e42 q q q (bB I)) q q q (On 2 11 h)))
 refine Rlc 2 q (Ci h q (λh=>Rcx 7 q (af (rs1 q (ap q)) (.inl ⟨h,Zl,⟨Zp,Zp,Zf,Zf,Zf,Zf,Zp,Zt⟩⟩))) λh=>?_)
 refine Rcl 9 q ?_
 obtain⟨a1,J,h⟩:=aa h
 refine Zq (dn e62 q q q (ae J) (dw J)) q (Zq (ef (i:=x) q q a42 (bQ J)) q (Rl 1 q ?_))
 obtain⟨a6,a7,h⟩:=aa h
 exact Zq (kO (E:=E2) (L:=mS) (M:=a1) (v:=a6) e42 q q (bB J) q a7) q (Rlx 4 q (af (rs1 q (ap q)) (.inr (⟨h,Zl,⟨Zp,Zp,Zf,Zf,Zf,Zf,Zp,Zt⟩⟩))))
 rintro rv st1 (⟨h,hr,hst⟩|⟨h,hr,hst⟩)
 subst Y
 dsimp only at h
 refine WL.cast 65 q hr (WL.weak hst (Rl 1 q (Zn (Rcl 4 q (Zq (oc underlying128 q) q (Rlc 2 q (bF q (au (WLP.wing [] q q q q (f102_c (r:=Rs.bad 280) q) Zt q dC q Zt q q (Zw q) q q (λr' new hS=>?_) λc new hS=>?_)))))))))
 obtain⟨z9,hz,_⟩:=hS
 cases hz
 obtain⟨z9,hz,rfl,rfl⟩:=hS
 obtain rfl:=Rs.bad.inj hz
 refine⟨_,q,q,?_⟩
 exact aU (iC ⟨h,q,⟨Zp,Zp,Zf,Zf,Zf,Zf,Zp,Zt⟩⟩)
 subst ad
 dsimp only at h
 refine WL.cast 65 q hr (WL.weak hst (Rl 1 q (Zn (Rcl 4 q (Zq (qx underlying128 q q) q (Rlc 2 q (aW q (Rcc 3 q ?_))))))))
 obtain⟨g,R,h⟩:=aa h
 apply RT [_,_,_,_,_,_,_,_,_,_,_,_, .u] [12] [[.row 116 (tQ 1 tR tP tX tD 5 va), .row 90 (mR mI mH mO mE 2 vo mN 4 vu),oS vo 3 vf mS,fS vf mS,uS vu mU, .os 58 6 va (eM R58 tA), .row 101 [.n g.size, .n g.lo, .n g.hi, .d (D.b g.ptr), .l E3 g.set_]]] [p01 9,p01 0,p10 1,p10 2,p10 3,p10 4,p10 5,p10 6,p01 6,p20 7 8,p10 9,p10 0,p11 10 5] kR kR q q
 refine Y9 ?_
 refine zo (λ_=>Zq (aj e33 q Zl q (ae R) (aR cg R) q) q (Zd q q q)) ?_
 refine Y2 ?_
 exact zo (λ_=>sS Z6 mY Z2 (aY q q)) Zt
 exact Rxx 2 q (WE.finP (af (rs2 q (ap q) (cz q q a101 mY q)) ⟨g,x,H,g.size,g.lo,g.hi,g.ptr,g.set_,h,(Le.tu ⟨Zl,(aw (Zs _)),Zt⟩),⟨Zp,Zp,Zf,Zf,Zf,Zf,Zp,Zt⟩⟩))
 rintro rv st1 ⟨e,w,k,y,A,B,C,F,h,hr,hst⟩
 subst W
 dsimp only at h
 refine WLP.of (WL.cast 29 q hr (WL.weak hst (Rl 3 q (Al lw q (Rl 1 q (sS Z6 mY Z2 (St q (Zn (Rcl 5 q ?_)))))))))
 obtain⟨b2,a8,h⟩:=aa h
 refine wF Z4 (f63_c a8) ⟨(aw (Zs _)),Zl,Zt⟩ Z3 (Rlc 3 q (Ci h q (λh=>?_) λh=>?_))
 refine au (WLP.wing [] q q q q (f102_c (r:=Rs.bad 280) q) Zt q dC q Zt q q (Zw q) q q (λr' new hS=>?_) λc new hS=>?_)
 obtain⟨z9,hz,_⟩:=hS
 cases hz
 obtain⟨z9,hz,rfl,rfl⟩:=hS
 obtain rfl:=Rs.bad.inj hz
 refine⟨_,q,q,?_⟩
 refine aU ?_
 obtain rfl:=Oi h
 exact aV (new:=(wD mI mH mO mE vo mN vu vf mS mU)) q ⟨Zt,Zp,Zf,Zf,Zf,Zt,Zt⟩ ⟨_,q,q,q⟩
 refine Rcc 3 q (au (WLP.pre 1 (Rl 1 q (WL.nil ?_))))
 obtain⟨a9,S,h⟩:=aa h
 rcases a9 with f|b3
 dsimp only[Rs.cs] at h
 refine WLP.wing [0,1,2,3,4,5] q q q q (f131_c S) Lw q dC (Re (Re (Rg (Rf (Ro (Ro q)))))) ⟨q,q,q,q,q,q,Zt⟩ Kv q (Zw q) q q (λr' new hS=>?_) (λc new hS=>?_)
 obtain⟨z9,hz,rfl,rfl⟩:=hS
 obtain rfl:=Rs.ok.inj hz
 refine⟨_,_,q,(Re (Re (Rg (Rf (Ro (Ro q)))))),q,Kv,WLP.of ?_⟩
 refine St q (Zn (Rcl 3 q (Zq (iX q q) q ?_)))
 obtain⟨G,a',h⟩:=aa h
 obtain⟨bb,bk,h⟩:=aa h
 refine WL.s0 (nE (E:=E2) (L:=mS) (M:=G) (v:=bb) (z:=p) (i:=k) q q (bB a') bk (λ_=>q) q q Lw q s2) (Zw q) q ?_
 refine WL.st (st':=[.row 116 (([.pt 1 0]:lV)++(bf 16 (λj=> .n (f.1 j))++([.n f.2.1, .n f.2.2.1, .n f.2.2.2, .os 5 va]:lV):lV)), .row 90 (mR mI mH mO mE 2 vo mN 4 vu), .os 42 1 vo (bg 3 vf (List.length (List.set mS (Int.toNat w) (List.set G (Int.toNat k) p)))), .fam 2 1 vf (bc E2 (List.set mS (Int.toNat w) (List.set G (Int.toNat k) p))),uS vu mU, .os 58 6 va (eM R58 tA), .row 101 [.n y, .n A, .n B, .d (D.b C), .l E3 F], .row 101 [.n e.size, .n e.lo, .n e.hi, .d (D.b e.ptr), .l E3 e.set_]]) (by show([.row 116 (([.pt 1 0]:lV)++(bf 16 (λj=> .n (f.1 j))++([.n f.2.1, .n f.2.2.1, .n f.2.2.2, .os 5 va]:lV):lV)), .row 90 (mR mI mH mO mE 2 vo mN 4 vu),oS vo 3 vf mS, .fam 2 1 vf (bc E2 (List.set mS (Int.toNat w) (List.set G (Int.toNat k) p))),uS vu mU, .os 58 6 va (eM R58 tA), .row 101 [.n y, .n A, .n B, .d (D.b C), .l E3 F], .row 101 [.n e.size, .n e.lo, .n e.hi, .d (D.b e.ptr), .l E3 e.set_]]:lW)=_;rw[List.length_set]) (Rlx 1 q ?_)
 refine bK ?_
 obtain rfl:=Oi h
 exact WE.finP (az (new:=[.row 116 (([.pt 1 0]:lV)++(bf 16 (λj=> .n (f.1 j))++([.n f.2.1, .n f.2.2.1, .n f.2.2.2, .os 5 va]:lV):lV)), .row 90 (mR mI mH mO mE 2 vo mN 4 vu), .os 42 1 vo (bg 3 vf (List.length (List.set mS (Int.toNat w) (List.set G (Int.toNat k) p)))), .fam 2 1 vf (bc E2 (List.set mS (Int.toNat w) (List.set G (Int.toNat k) p))),uS vu mU, .os 58 6 va (eM R58 tA)]) (r0:= .d (.tu [])) (bT q) (bd Zt) q ⟨Zp,Zp,Zf,Zf,Zf,Zf,Zt⟩ ⟨_,vf,q,q,q⟩)
 obtain⟨z9,hz,_⟩:=hS
 cases hz
 dsimp only[Rs.cs] at h
 refine WLP.wing [0,1,2,3,4,5] q q q q (f131_c S) Lw q dC (Re (Re (Rg (Rf (Ro (Ro q)))))) ⟨q,q,q,q,q,q,Zt⟩ Kv q (Zw q) q q (λr' new hS=>?_) (λc new hS=>?_)
 obtain⟨z9,hz,_⟩:=hS
 cases hz
 obtain⟨z9,hz,rfl,rfl⟩:=hS
 obtain rfl:=Rs.bad.inj hz
 refine⟨_,(Re (Re (Rg (Rf (Ro (Re q)))))),Kv,?_⟩
 refine cv (st':=[.z, .row 90 (mR mI mH mO mE 2 vo mN 4 vu),oS vo 3 vf mS,fS vf mS,uS vu mU, .z, .row 101 [.n y, .n A, .n B, .d (D.b C), .l E3 F], .row 101 [.n e.size, .n e.lo, .n e.hi, .d (D.b e.ptr), .l E3 e.set_]]) q (aU ?_)
 obtain rfl:=Oi h
 exact aV (new:=(wD mI mH mO mE vo mN vu vf mS mU)) q ⟨Zt,Zp,Zf,Zf,Zf,Zt,Zt⟩ ⟨_,q,q,q⟩
 rintro c st1 ⟨h,rfl,hst⟩
 subst U
 dsimp only at h
 refine WE.weak hst (aU ?_)
 obtain rfl:=Oi h
 exact aV (new:=(wD mI mH mO mE vo mN vu vf mS mU)) q ⟨Zt,Zp,Zf,Zf,Zf,Zt,Zt⟩ ⟨_,q,q,q⟩

theorem f83_c{tR:Nat→Int}{tP:Int}{tX:Int}{tD:Int}{mI:lN}{mH:lH}{mO:lO}{mE:Int}{mN:lI}{mS:lL}{mU:lI}{tA:lA}{x1:ak}{vo:Nat}{vf:Nat}{vu:Nat}{va:Nat}{r:Rs ((Nat→Int)×Int×Int×Int)}(h:f83 tR tP tX tD mI mH mO mE mN mS mU tA x1=some r):CtrP prog 83 [.pt 0 0, .d (.ag (R45 x1))] (wT tR tP tX tD va mI mH mO mE vo mN vu vf mS mU tA) (cX 6 (λr' new=>∃(z:(Nat→Int)×Int×Int×Int),r= .ok z∧r'= .d (.tu [])∧new=[.row 116 (([.pt 1 0]:lV)++(bf 16 (λj=> .n (z.1 j))++([.n z.2.1, .n z.2.2.1, .n z.2.2.2, .os 5 va]:lV):lV)), .row 90 (mR mI mH mO mE 2 vo mN 4 vu),oS vo 3 vf mS,fS vf mS,uS vu mU, .os 58 6 va (eM R58 tA)])) (dU 6 (λc new=>∃(ee:Int),r= .bad ee∧c=cF ee∧new=(wD mI mH mO mE vo mN vu vf mS mU))):=by
 unfold f83 at h
 refine bC func83 kR q q q (λmm φφ ww hmm=>?_)
 refine Rcl 2 q (Bd q q (Zs _) q (Rlc 3 q (am kR kR (Rq 6 q ?_))))
 replace h:=av h
 obtain⟨f,h⟩:=h
 refine WQ.qn (ar dG q q (bx f) (bw f)) q (WQ.qn (bJ (off:=1) (n:=16) (λj=> .n (tR j)) q q a2 q f) q (Rq 1 q (WQ.nil (Rxl 8 q ?_))))
 refine AG 5 19 24 5 5 ?_
 refine Rl 1 q ?_
 refine AG 11 25 36 11 11 ?_
 refine Rlc 3 q (Ci h q (λh=>?_) λh=>?_)
 refine Rcl 12 q (sS Z6 s3 Z2 (St q (Rlx 2 q (bK ?_))))
 obtain rfl:=Oi h
 exact WE.finP (az (new:=[.row 116 (([.pt 1 0]:lV)++(bf 16 (λj=> .n (tR j))++([.n (IntKind.i64.wrap (x1.to+(IntKind.i64.wrap ((tR (Int.toNat x1.a)) - x1.n)))), .n tX, .n tD, .os 5 va]:lV):lV)), .row 90 (mR mI mH mO mE 2 vo mN 4 vu),oS vo 3 vf mS,fS vf mS,uS vu mU, .os 58 6 va (eM R58 tA)]) (r0:= .d (.tu [])) (bT q) (bd Zt) q ⟨Zp,Zp,Zf,Zf,Zf,Zf,Zt⟩ ⟨_,q,q,q⟩)
 refine Jn1 (λg=> [(0, .pt 0 0),(3, .d (.pc (R45 x1))),(48, .d (D.b g))]) (λ_=>(wT tR tP tX tD va mI mH mO mE vo mN vu vf mS mU tA)) h (λ_ h=>?_) (λg h=>?_)
 refine Rcc 8 q (Ci h q (λh=>Rcx 1 q (En1 h)) λh=>?_)
 refine Rcl 6 q ?_
 refine AG 3 55 58 3 3 ?_
 refine Rlc 3 q (Ci h q (λh=>Rcx 1 q (En1 h)) λh=>?_)
 refine Rcl 5 q ?_
 refine AG 3 62 65 3 3 ?_
 exact Rlx 2 q (En1 h)
 refine Ci h q (λh=>?_) (λh=>?_)
 refine Rcl 7 q (sS Z6 s3 Z2 (St q (Rlx 2 q (bK ?_))))
 obtain rfl:=Oi h
 exact WE.finP (az (new:=[.row 116 (([.pt 1 0]:lV)++(bf 16 (λj=> .n (tR j))++([.n x1.to, .n tX, .n tD, .os 5 va]:lV):lV)), .row 90 (mR mI mH mO mE 2 vo mN 4 vu),oS vo 3 vf mS,fS vf mS,uS vu mU, .os 58 6 va (eM R58 tA)]) (r0:= .d (.tu [])) (bT q) (bd Zt) q ⟨Zp,Zp,Zf,Zf,Zf,Zf,Zt⟩ ⟨_,q,q,q⟩)
 refine au (WLP.pre 1 (Rl 1 q (WL.nil ?_)))
 obtain⟨m,k,h⟩:=aa h
 rcases m with e|p
 dsimp only[Rs.cs] at h
 refine WLP.wing [0,1,2,3,4,5] q q q q (f131_c k) Lw q dC (Re (Re (Rg (Rf (Ro (Ro q)))))) ⟨q,q,q,q,q,q,Zt⟩ Kv q (Zw q) q q (λr' new hS=>?_) (λc new hS=>?_)
 obtain⟨z9,hz,rfl,rfl⟩:=hS
 obtain rfl:=Rs.ok.inj hz
 refine⟨_,_,q,(Re (Re (Rg (Rf (Ro (Ro q)))))),q,Kv,WLP.of ?_⟩
 refine St q (WL.nil (Rxx 1 q (bK ?_)))
 obtain rfl:=Oi h
 exact WE.finP (az (new:=[.row 116 (([.pt 1 0]:lV)++(bf 16 (λj=> .n (e.1 j))++([.n e.2.1, .n e.2.2.1, .n e.2.2.2, .os 5 va]:lV):lV)), .row 90 (mR mI mH mO mE 2 vo mN 4 vu),oS vo 3 vf mS,fS vf mS,uS vu mU, .os 58 6 va (eM R58 tA)]) (r0:= .d (.tu [])) (bT q) (bd Zt) q ⟨Zp,Zp,Zf,Zf,Zf,Zf,Zt⟩ ⟨_,q,q,q⟩)
 obtain⟨z9,hz,_⟩:=hS
 cases hz
 dsimp only[Rs.cs] at h
 refine WLP.wing [0,1,2,3,4,5] q q q q (f131_c k) Lw q dC (Re (Re (Rg (Rf (Ro (Ro q)))))) ⟨q,q,q,q,q,q,Zt⟩ Kv q (Zw q) q q (λr' new hS=>?_) (λc new hS=>?_)
 obtain⟨z9,hz,_⟩:=hS
 cases hz
 obtain⟨z9,hz,rfl,rfl⟩:=hS
 obtain rfl:=Rs.bad.inj hz
 refine⟨_,(Re (Re (Rg (Rf (Ro (Re q)))))),Kv,?_⟩
 refine cv (st':=(wD mI mH mO mE vo mN vu vf mS mU)) q (bG ?_)
 obtain rfl:=Oi h
 exact aV (new:=(wD mI mH mO mE vo mN vu vf mS mU)) q ⟨Zt,Zp,Zf,Zf,Zf,Zt,Zt⟩ ⟨_,q,q,q⟩

theorem f84_c{tR:Nat→Int}{tP:Int}{tX:Int}{tD:Int}{mI:lN}{mH:lH}{mO:lO}{mE:Int}{mN:lI}{mS:lL}{mU:lI}{tA:lA}{x1:ak}{vo:Nat}{vf:Nat}{vu:Nat}{va:Nat}{r:Rs ((Nat→Int)×Int×Int×Int×lA)}(h:f84 tR tP tX tD mI mH mO mE mN mS mU tA x1=some r):CtrP prog 84 [.pt 0 0, .d (.ag (R45 x1))] (wT tR tP tX tD va mI mH mO mE vo mN vu vf mS mU tA) (cX 6 (λr' new=>∃(z:(Nat→Int)×Int×Int×Int×lA)(i5:Nat),r= .ok z∧r'= .d (.tu [])∧new=[.row 116 (([.pt 1 0]:lV)++(bf 16 (λj=> .n (z.1 j))++([.n z.2.1, .n z.2.2.1, .n z.2.2.2.1, .os 5 i5]:lV):lV)), .row 90 (mR mI mH mO mE 2 vo mN 4 vu),oS vo 3 vf mS,fS vf mS,uS vu mU, .os 58 6 i5 (eM R58 z.2.2.2.2)])) (dU 6 (λc new=>∃(ee:Int),r= .bad ee∧c=cF ee∧new=(wD mI mH mO mE vo mN vu vf mS mU))):=by
 unfold f84 at h
 refine bC func84 kR q q q (λmm φφ ww hmm=>?_)
 refine Rcl 2 q (Bd q q (Zs _) q (Rlc 3 q (am kR kR (Rq 6 q ?_))))
 replace h:=av h
 obtain⟨a,h⟩:=h
 refine WQ.qn (ar dG q q (bx a) (bw a)) q (WQ.qn (bJ (off:=1) (n:=16) (λj=> .n (tR j)) q q a2 q a) q (Rq 1 q (WQ.nil (Rxl 8 q ?_))))
 apply WL.and 11 (t:=16) (d:=27)
 exact q
 intro m
 refine Rl 5 q ?_
 refine OG 5 21 26 5 5 ?_
 exact Rn 1 7
 exact Rn 11 11
 refine Rl 1 q ?_
 apply WL.or 8 (t:=28) (d:=36)
 exact q
 intro p
 refine Rl 4 q ?_
 refine AG 3 32 35 3 3 ?_
 exact Rn 1 6
 exact Rn 8 8
 refine Rlc 2 q (Ci h q (λh=>?_) λh=>?_)
 refine Rcc 1 q (au (WLP.pre 1 (Rl 1 q (WL.nil ?_))))
 obtain⟨g,e,h⟩:=aa h
 rcases g with z46|w
 dsimp only[Rs.cs] at h
 refine WLP.wing [0,1,2,3,4,5] q q q q (f56_c e) Lw q dC (Re (Re (Rg (Rf (Ro (Ro q)))))) ⟨q,q,q,q,q,q,Zt⟩ Kv q (Zw q) q q (λr' new hS=>?_) (λc new hS=>?_)
 obtain⟨z9,i5_48,hz,rfl,rfl⟩:=hS
 obtain rfl:=Rs.ok.inj hz
 refine⟨_,_,q,(Re (Re (Rg (Rf (Ro (Ro q)))))),q,Kv,WLP.of ?_⟩
 refine St q (Zn (Rcx 2 q ?_))
 obtain rfl:=Oi h
 exact WE.finP (az (new:=[.row 116 (([.pt 1 0]:lV)++(bf 16 (λj=> .n (z46.1 j))++([.n z46.2.1, .n z46.2.2.1, .n z46.2.2.2.1, .os 5 i5_48]:lV):lV)), .row 90 (mR mI mH mO mE 2 vo mN 4 vu),oS vo 3 vf mS,fS vf mS,uS vu mU, .os 58 6 i5_48 (eM R58 z46.2.2.2.2)]) (r0:= .d (.tu [])) (bT q) (bd Zt) q ⟨Zp,Zp,Zf,Zf,Zf,Zf,Zt⟩ ⟨_,i5_48,q,q,q⟩)
 obtain⟨z9,hz,_⟩:=hS
 cases hz
 dsimp only[Rs.cs] at h
 refine WLP.wing [0,1,2,3,4,5] q q q q (f56_c e) Lw q dC (Re (Re (Rg (Rf (Ro (Ro q)))))) ⟨q,q,q,q,q,q,Zt⟩ Kv q (Zw q) q q (λr' new hS=>?_) (λc new hS=>?_)
 obtain⟨z9,i5_48,hz,_⟩:=hS
 cases hz
 obtain⟨z9,hz,rfl,rfl⟩:=hS
 obtain rfl:=Rs.bad.inj hz
 refine⟨_,(Re (Re (Rg (Rf (Ro (Re q)))))),Kv,?_⟩
 refine cv (st':=(wD mI mH mO mE vo mN vu vf mS mU)) q (aU (aU ?_))
 obtain rfl:=Oi h
 exact aV (new:=(wD mI mH mO mE vo mN vu vf mS mU)) q ⟨Zt,Zp,Zf,Zf,Zf,Zt,Zt⟩ ⟨_,q,q,q⟩
 refine Rcc 2 q (au (WLP.pre 1 (Rl 1 q (WL.nil ?_))))
 obtain⟨k,f,h⟩:=aa h
 rcases k with z50|x
 dsimp only[Rs.cs] at h
 refine WLP.wing [0,1,2,3,4,5] q q q q (f131_c f) Lw q dC (Re (Re (Rg (Rf (Ro (Ro q)))))) ⟨q,q,q,q,q,q,Zt⟩ Kv q (Zw q) q q (λr' new hS=>?_) (λc new hS=>?_)
 obtain⟨z9,hz,rfl,rfl⟩:=hS
 obtain rfl:=Rs.ok.inj hz
 refine⟨_,_,q,(Re (Re (Rg (Rf (Ro (Ro q)))))),q,Kv,WLP.of ?_⟩
 refine St q (WL.nil (bK ?_))
 obtain rfl:=Oi h
 exact WE.finP (az (new:=[.row 116 (([.pt 1 0]:lV)++(bf 16 (λj=> .n (z50.1 j))++([.n z50.2.1, .n z50.2.2.1, .n z50.2.2.2, .os 5 va]:lV):lV)), .row 90 (mR mI mH mO mE 2 vo mN 4 vu),oS vo 3 vf mS,fS vf mS,uS vu mU, .os 58 6 va (eM R58 tA)]) (r0:= .d (.tu [])) (bT q) (bd Zt) q ⟨Zp,Zp,Zf,Zf,Zf,Zf,Zt⟩ ⟨_,va,q,q,q⟩)
 obtain⟨z9,hz,_⟩:=hS
 cases hz
 dsimp only[Rs.cs] at h
 refine WLP.wing [0,1,2,3,4,5] q q q q (f131_c f) Lw q dC (Re (Re (Rg (Rf (Ro (Ro q)))))) ⟨q,q,q,q,q,q,Zt⟩ Kv q (Zw q) q q (λr' new hS=>?_) (λc new hS=>?_)
 obtain⟨z9,hz,_⟩:=hS
 cases hz
 obtain⟨z9,hz,rfl,rfl⟩:=hS
 obtain rfl:=Rs.bad.inj hz
 refine⟨_,(Re (Re (Rg (Rf (Ro (Re q)))))),Kv,?_⟩
 refine cv (st':=(wD mI mH mO mE vo mN vu vf mS mU)) q ?_
 obtain rfl:=Oi h
 exact aV (new:=(wD mI mH mO mE vo mN vu vf mS mU)) q ⟨Zt,Zp,Zf,Zf,Zf,Zt,Zt⟩ ⟨_,q,q,q⟩

theorem f85_c{tR:Nat→Int}{tP:Int}{tX:Int}{tD:Int}{mI:lN}{mH:lH}{mO:lO}{mE:Int}{mN:lI}{mS:lL}{mU:lI}{tA:lA}{x1:ak}{vo:Nat}{vf:Nat}{vu:Nat}{va:Nat}{r:Rs ((Nat→Int)×Int×Int×Int×lA)}(h:f85 tR tP tX tD mI mH mO mE mN mS mU tA x1=some r):CtrP prog 85 [.pt 0 0, .d (.ag (R45 x1))] (wT tR tP tX tD va mI mH mO mE vo mN vu vf mS mU tA) (cX 6 (λr' new=>∃(z:(Nat→Int)×Int×Int×Int×lA)(i5:Nat),r= .ok z∧r'= .d (.tu [])∧new=[.row 116 (([.pt 1 0]:lV)++(bf 16 (λj=> .n (z.1 j))++([.n z.2.1, .n z.2.2.1, .n z.2.2.2.1, .os 5 i5]:lV):lV)), .row 90 (mR mI mH mO mE 2 vo mN 4 vu),oS vo 3 vf mS,fS vf mS,uS vu mU, .os 58 6 i5 (eM R58 z.2.2.2.2)])) (dU 6 (λc new=>∃(ee:Int),r= .bad ee∧c=cF ee∧new=(wD mI mH mO mE vo mN vu vf mS mU))):=by
 unfold f85 at h
 refine bC func85 kR q q q (λmm φφ ww hmm=>?_)
 refine Rcl 2 q (Bd q q (Zs _) q (Rlc 3 q (am kR kR (Rq 6 q ?_))))
 replace h:=av h
 obtain⟨k,h⟩:=h
 refine WQ.qn (ar dG q q (bx k) (bw k)) q (WQ.qn (bJ (off:=1) (n:=16) (λj=> .n (tR j)) q q a2 q k) q (Rq 1 q (WQ.nil (Rxc 10 q (Ci h q (λh=>?_) λh=>?_)))))
 refine au (WLP.pre 3 (Rl 3 q (WL.nil ?_)))
 obtain⟨y,m,h⟩:=aa h
 rcases y with a|e71
 dsimp only[Rs.cs] at h
 refine WLP.wing [0,1,2,3,4,5] q q q q (f56_c m) Lw q dC (Re (Re (Rg (Rf (Ro (Ro q)))))) ⟨q,q,q,q,q,q,Zt⟩ Kv q (Zw q) q q (λr' new hS=>?_) (λc new hS=>?_)
 obtain⟨z9,i5_72,hz,rfl,rfl⟩:=hS
 obtain rfl:=Rs.ok.inj hz
 refine⟨_,_,q,(Re (Re (Rg (Rf (Ro (Ro q)))))),q,Kv,WLP.of ?_⟩
 refine St q (WL.nil (Rxx 1 q (bK ?_)))
 obtain rfl:=Oi h
 exact WE.finP (az (new:=[.row 116 (([.pt 1 0]:lV)++(bf 16 (λj=> .n (a.1 j))++([.n a.2.1, .n a.2.2.1, .n a.2.2.2.1, .os 5 i5_72]:lV):lV)), .row 90 (mR mI mH mO mE 2 vo mN 4 vu),oS vo 3 vf mS,fS vf mS,uS vu mU, .os 58 6 i5_72 (eM R58 a.2.2.2.2)]) (r0:= .d (.tu [])) (bT q) (bd Zt) q ⟨Zp,Zp,Zf,Zf,Zf,Zf,Zt⟩ ⟨_,i5_72,q,q,q⟩)
 obtain⟨z9,hz,_⟩:=hS
 cases hz
 dsimp only[Rs.cs] at h
 refine WLP.wing [0,1,2,3,4,5] q q q q (f56_c m) Lw q dC (Re (Re (Rg (Rf (Ro (Ro q)))))) ⟨q,q,q,q,q,q,Zt⟩ Kv q (Zw q) q q (λr' new hS=>?_) (λc new hS=>?_)
 obtain⟨z9,i5_72,hz,_⟩:=hS
 cases hz
 obtain⟨z9,hz,rfl,rfl⟩:=hS
 obtain rfl:=Rs.bad.inj hz
 refine⟨_,(Re (Re (Rg (Rf (Ro (Re q)))))),Kv,?_⟩
 refine cv (st':=(wD mI mH mO mE vo mN vu vf mS mU)) q (bG ?_)
 obtain rfl:=Oi h
 exact aV (new:=(wD mI mH mO mE vo mN vu vf mS mU)) q ⟨Zt,Zp,Zf,Zf,Zf,Zt,Zt⟩ ⟨_,q,q,q⟩
 refine Rcl 6 q ?_
 refine AG 3 28 31 3 3 ?_
 refine Rlc 3 q (Ci h q (λh=>?_) λh=>?_)
 refine au (WLP.pre 1 (Rl 1 q (WL.nil ?_)))
 obtain⟨A,p,h⟩:=aa h
 rcases A with f|E
 dsimp only[Rs.cs] at h
 refine WLP.wing [0,1,2,3,4,5] q q q q (f131_c p) Lw q dC (Re (Re (Rg (Rf (Ro (Ro q)))))) ⟨q,q,q,q,q,q,Zt⟩ Kv q (Zw q) q q (λr' new hS=>?_) (λc new hS=>?_)
 obtain⟨z9,hz,rfl,rfl⟩:=hS
 obtain rfl:=Rs.ok.inj hz
 refine⟨_,_,q,(Re (Re (Rg (Rf (Ro (Ro q)))))),q,Kv,WLP.of ?_⟩
 refine St q (WL.nil (Rxx 1 q (bK ?_)))
 obtain rfl:=Oi h
 exact WE.finP (az (new:=[.row 116 (([.pt 1 0]:lV)++(bf 16 (λj=> .n (f.1 j))++([.n f.2.1, .n f.2.2.1, .n f.2.2.2, .os 5 va]:lV):lV)), .row 90 (mR mI mH mO mE 2 vo mN 4 vu),oS vo 3 vf mS,fS vf mS,uS vu mU, .os 58 6 va (eM R58 tA)]) (r0:= .d (.tu [])) (bT q) (bd Zt) q ⟨Zp,Zp,Zf,Zf,Zf,Zf,Zt⟩ ⟨_,va,q,q,q⟩)
 obtain⟨z9,hz,_⟩:=hS
 cases hz
 dsimp only[Rs.cs] at h
 refine WLP.wing [0,1,2,3,4,5] q q q q (f131_c p) Lw q dC (Re (Re (Rg (Rf (Ro (Ro q)))))) ⟨q,q,q,q,q,q,Zt⟩ Kv q (Zw q) q q (λr' new hS=>?_) (λc new hS=>?_)
 obtain⟨z9,hz,_⟩:=hS
 cases hz
 obtain⟨z9,hz,rfl,rfl⟩:=hS
 obtain rfl:=Rs.bad.inj hz
 refine⟨_,(Re (Re (Rg (Rf (Ro (Re q)))))),Kv,?_⟩
 refine cv (st':=(wD mI mH mO mE vo mN vu vf mS mU)) q (bG ?_)
 obtain rfl:=Oi h
 exact aV (new:=(wD mI mH mO mE vo mN vu vf mS mU)) q ⟨Zt,Zp,Zf,Zf,Zf,Zt,Zt⟩ ⟨_,q,q,q⟩
 refine Rcl 12 q ?_
 refine OG 3 44 47 3 3 ?_
 refine Rl 1 q ?_
 apply WL.or 8 (t:=48) (d:=56)
 exact q
 intro F
 refine Rl 4 q ?_
 refine AG 3 52 55 3 3 ?_
 exact Rn 1 6
 exact Rn 8 8
 refine Rlc 3 q (Ci h q (λh=>?_) λh=>?_)
 refine au (WLP.wing [] q q q q (f102_c (r:=Rs.bad 280) q) Zt q dC q Zt q q (Zw q) q q (λr' new hS=>?_) λc new hS=>?_)
 obtain⟨z9,hz,_⟩:=hS
 cases hz
 obtain⟨z9,hz,rfl,rfl⟩:=hS
 obtain rfl:=Rs.bad.inj hz
 refine⟨_,q,q,?_⟩
 refine bG ?_
 obtain rfl:=Oi h
 exact aV (new:=(wD mI mH mO mE vo mN vu vf mS mU)) q ⟨Zt,Zp,Zf,Zf,Zf,Zt,Zt⟩ ⟨_,q,q,q⟩
 refine Rcc 8 q (Ci h q (λh=>?_) λh=>?_)
 refine au (WLP.pre 2 (Rl 2 q (WL.nil ?_)))
 obtain⟨B,w,h⟩:=aa h
 rcases B with g|G
 dsimp only[Rs.cs] at h
 refine WLP.wing [0,1,2,3,4,5] q q q q (f59_c w) Lw q dC (Re (Re (Rg (Rf (Ro (Ro q)))))) ⟨q,q,q,q,q,q,Zt⟩ Kv q (Zw q) q q (λr' new hS=>?_) (λc new hS=>?_)
 obtain⟨z9,hz,rfl,rfl⟩:=hS
 obtain rfl:=Rs.ok.inj hz
 refine⟨_,_,q,(Re (Re (Rg (Rf (Ro (Ro q)))))),q,Kv,WLP.of ?_⟩
 refine St q (WL.nil (Rxx 1 q (bK ?_)))
 obtain rfl:=Oi h
 exact WE.finP (az (new:=[.row 116 (([.pt 1 0]:lV)++(bf 16 (λj=> .n (g.1 j))++([.n g.2.1, .n g.2.2.1, .n g.2.2.2, .os 5 va]:lV):lV)), .row 90 (mR mI mH mO mE 2 vo mN 4 vu),oS vo 3 vf mS,fS vf mS,uS vu mU, .os 58 6 va (eM R58 tA)]) (r0:= .d (.tu [])) (bT q) (bd Zt) q ⟨Zp,Zp,Zf,Zf,Zf,Zf,Zt⟩ ⟨_,va,q,q,q⟩)
 obtain⟨z9,hz,_⟩:=hS
 cases hz
 dsimp only[Rs.cs] at h
 refine WLP.wing [0,1,2,3,4,5] q q q q (f59_c w) Lw q dC (Re (Re (Rg (Rf (Ro (Ro q)))))) ⟨q,q,q,q,q,q,Zt⟩ Kv q (Zw q) q q (λr' new hS=>?_) (λc new hS=>?_)
 obtain⟨z9,hz,_⟩:=hS
 cases hz
 obtain⟨z9,hz,rfl,rfl⟩:=hS
 obtain rfl:=Rs.bad.inj hz
 refine⟨_,(Re (Re (Rg (Rf (Ro (Re q)))))),Kv,?_⟩
 refine cv (st':=(wD mI mH mO mE vo mN vu vf mS mU)) q (bG ?_)
 obtain rfl:=Oi h
 exact aV (new:=(wD mI mH mO mE vo mN vu vf mS mU)) q ⟨Zt,Zp,Zf,Zf,Zf,Zt,Zt⟩ ⟨_,q,q,q⟩
 refine au (WLP.pre 2 (Rl 2 q (WL.nil ?_)))
 obtain⟨C,x,h⟩:=aa h
 rcases C with e|H
 dsimp only[Rs.cs] at h
 refine WLP.wing [0,1,2,3,4,5] q q q q (f56_c x) Lw q dC (Re (Re (Rg (Rf (Ro (Ro q)))))) ⟨q,q,q,q,q,q,Zt⟩ Kv q (Zw q) q q (λr' new hS=>?_) (λc new hS=>?_)
 obtain⟨z9,i5_88,hz,rfl,rfl⟩:=hS
 obtain rfl:=Rs.ok.inj hz
 refine⟨_,_,q,(Re (Re (Rg (Rf (Ro (Ro q)))))),q,Kv,WLP.of ?_⟩
 refine St q (WL.nil (Rxx 1 q (bK ?_)))
 obtain rfl:=Oi h
 exact WE.finP (az (new:=[.row 116 (([.pt 1 0]:lV)++(bf 16 (λj=> .n (e.1 j))++([.n e.2.1, .n e.2.2.1, .n e.2.2.2.1, .os 5 i5_88]:lV):lV)), .row 90 (mR mI mH mO mE 2 vo mN 4 vu),oS vo 3 vf mS,fS vf mS,uS vu mU, .os 58 6 i5_88 (eM R58 e.2.2.2.2)]) (r0:= .d (.tu [])) (bT q) (bd Zt) q ⟨Zp,Zp,Zf,Zf,Zf,Zf,Zt⟩ ⟨_,i5_88,q,q,q⟩)
 obtain⟨z9,hz,_⟩:=hS
 cases hz
 dsimp only[Rs.cs] at h
 refine WLP.wing [0,1,2,3,4,5] q q q q (f56_c x) Lw q dC (Re (Re (Rg (Rf (Ro (Ro q)))))) ⟨q,q,q,q,q,q,Zt⟩ Kv q (Zw q) q q (λr' new hS=>?_) (λc new hS=>?_)
 obtain⟨z9,i5_88,hz,_⟩:=hS
 cases hz
 obtain⟨z9,hz,rfl,rfl⟩:=hS
 obtain rfl:=Rs.bad.inj hz
 refine⟨_,(Re (Re (Rg (Rf (Ro (Re q)))))),Kv,?_⟩
 refine cv (st':=(wD mI mH mO mE vo mN vu vf mS mU)) q (bG ?_)
 obtain rfl:=Oi h
 exact aV (new:=(wD mI mH mO mE vo mN vu vf mS mU)) q ⟨Zt,Zp,Zf,Zf,Zf,Zt,Zt⟩ ⟨_,q,q,q⟩

theorem f86_c{tR:Nat→Int}{tP:Int}{tX:Int}{tD:Int}{mI:lN}{mH:lH}{mO:lO}{mE:Int}{mN:lI}{mS:lL}{mU:lI}{tA:lA}{x1:ak}{vo:Nat}{vf:Nat}{vu:Nat}{va:Nat}{r:Rs ((Nat→Int)×Int×Int×Int×lI×lI×lA)}(h:f86 tR tP tX tD mI mH mO mE mN mS mU tA x1=some r):CtrP prog 86 [.pt 0 0, .d (.ag (R45 x1))] (wT tR tP tX tD va mI mH mO mE vo mN vu vf mS mU tA) (cX 6 (λr' new=>∃(z:(Nat→Int)×Int×Int×Int×lI×lI×lA)(i4 i5:Nat),r= .ok z∧r'= .d (.tu [])∧new=[.row 116 (([.pt 1 0]:lV)++(bf 16 (λj=> .n (z.1 j))++([.n z.2.1, .n z.2.2.1, .n z.2.2.2.1, .os 5 i5]:lV):lV)), .row 90 (mR mI mH mO mE 2 vo z.2.2.2.2.1 4 i4),oS vo 3 vf mS,fS vf mS, .os 2 1 i4 (eM E2 z.2.2.2.2.2.1), .os 58 6 i5 (eM R58 z.2.2.2.2.2.2)])) (dU 6 (λc new=>∃(ee:Int),r= .bad ee∧c=cF ee∧new=(wD mI mH mO mE vo mN vu vf mS mU))):=by
 unfold f86 at h
 refine bC func86 kR q q q (λmm φφ ww hmm=>?_)
 refine Rcl 2 q (Bd q q (Zs _) q (Rlc 11 q (Ci h q (λh=>?_) λh=>?_)))
 refine Rcc 1 q (au (WLP.pre 1 (Rl 1 q (WL.nil ?_))))
 obtain⟨H,A,h⟩:=aa h
 rcases H with f|Q
 dsimp only[Rs.cs] at h
 refine WLP.wing [0,1,2,3,4,5] q q q q (f131_c A) Lw q dC (Re (Re (Rg (Rf (Ro (Ro q)))))) ⟨q,q,q,q,q,q,Zt⟩ Kv q (Zw q) q q (λr' new hS=>?_) (λc new hS=>?_)
 obtain⟨z9,hz,rfl,rfl⟩:=hS
 obtain rfl:=Rs.ok.inj hz
 refine⟨_,_,q,(Re (Re (Rg (Rf (Ro (Ro q)))))),q,Kv,WLP.of ?_⟩
 refine St q (Zn (Rcl 7 q (Zq (aB p58 z58 q q) q (Al z58 q (sS Z6 s58 Z2 (St q (Rlc 2 q (Jn1 (λ_=> [(0, .pt 0 0),(4, .pt 6 0)]) (λk=> [.row 116 (([.pt 1 0]:lV)++(bf 16 (λj=> .n (f.1 j))++([.n f.2.1, .n f.2.2.1, .n f.2.2.2, .os 5 va]:lV):lV)), .row 90 (mR mI mH mO mE 2 vo mN 4 vu),oS vo 3 vf mS,fS vf mS,uS vu mU, .os 58 6 va (eM R58 tA), .row 58 [.n 0, .n 0, .d (D.i .u8 (IntKind.u8.wrap x1.n)), .n k, .n 0, .n 0]]) h (λ_ h=>?_) λk h=>?_))))))))
 exact Rcc 7 q (Ci h q (λh=>Rcl 7 q (sS Z6 s2 Z2 (St q (Rlx 1 q (En1 h))))) λh=>Rcx 1 q (En1 h))
 replace h:=av h
 obtain⟨I,h⟩:=h
 apply RT [_,_,_,_,_,_,_,_,_,_, .u] [7,10] [[.row 116 (([.pt 1 0]:lV)++(bf 16 (λj=> .n (f.1 j))++([.n f.2.1, .n f.2.2.1, .n f.2.2.2, .os 5 va]:lV):lV)), .row 90 (mR mI mH mO mE 2 vo mN 4 vu),oS vo 3 vf mS,fS vf mS,uS vu mU, .os 58 6 (va+1) (eM R58 (tA++ [(Act.mk 0 0 (IntKind.u8.wrap x1.n) k 0 0)])), .row 58 [.n 0, .n 0, .d (D.i .u8 (IntKind.u8.wrap x1.n)), .n k, .n 0, .n 0]],[.row 116 (([.pt 1 0]:lV)++(bf 16 (λj=> .n (f.1 j))++([.n f.2.1, .n f.2.2.1, .n f.2.2.2, .os 5 (va+1)]:lV):lV)), .row 90 (mR mI mH mO mE 2 vo mN 4 vu),oS vo 3 vf mS,fS vf mS,uS vu mU, .os 58 6 (va+1) (eM R58 (tA++ [(Act.mk 0 0 (IntKind.u8.wrap x1.n) k 0 0)])), .row 58 [.n 0, .n 0, .d (D.i .u8 (IntKind.u8.wrap x1.n)), .n k, .n 0, .n 0]]] [u01 0,p01 0,p10 1,p10 2,p10 3,p01 4,p10 5,p20 4 6,q10 0 1,q10 8 1,q20 9 7 1] kR kR q q
 refine X2a ?_
 refine Y5 ?_
 refine zo (λ_=>WL.s ((NewOs.data (aJ l50 z58 q dC dC q q q dC) (by exact bO fy [(Act.mk 0 0 (IntKind.u8.wrap x1.n) k 0 0)])).does) (Zw q) q q (Zd q q q)) ?_
 refine zo (λ_=>WL.s (bR R58 tA [(Act.mk 0 0 (IntKind.u8.wrap x1.n) k 0 0)] l50 z58 q dC q q q q (dm Zl fy λ_=>q) (λ_=>q) (λ_=>q) I) (Zw q) q q (Zd q q q)) ?_
 refine Y2 ?_
 exact zo (λ_=>WL.s0 (ct q q q (dc q) s50 q) (Zw q) q (aY q q)) Zt
 refine Rxx 1 q (bK ?_)
 obtain rfl:=Oi h
 exact WE.finP (az (new:=[.row 116 (([.pt 1 0]:lV)++(bf 16 (λj=> .n (f.1 j))++([.n f.2.1, .n f.2.2.1, .n f.2.2.2, .os 5 (va+1)]:lV):lV)), .row 90 (mR mI mH mO mE 2 vo mN 4 vu),oS vo 3 vf mS,fS vf mS,uS vu mU, .os 58 6 (va+1) (eM R58 (tA++ [(Act.mk 0 0 (IntKind.u8.wrap x1.n) k 0 0)]))]) (r0:= .d (.tu [])) (bT q) (bd Zt) q ⟨Zp,Zp,Zf,Zf,Zf,Zf,Zt⟩ ⟨_,vu,(va+1),q,q,q⟩)
 obtain⟨z9,hz,_⟩:=hS
 cases hz
 dsimp only[Rs.cs] at h
 refine WLP.wing [0,1,2,3,4,5] q q q q (f131_c A) Lw q dC (Re (Re (Rg (Rf (Ro (Ro q)))))) ⟨q,q,q,q,q,q,Zt⟩ Kv q (Zw q) q q (λr' new hS=>?_) (λc new hS=>?_)
 obtain⟨z9,hz,_⟩:=hS
 cases hz
 obtain⟨z9,hz,rfl,rfl⟩:=hS
 obtain rfl:=Rs.bad.inj hz
 refine⟨_,(Re (Re (Rg (Rf (Ro (Re q)))))),Kv,?_⟩
 refine cv (st':=(wD mI mH mO mE vo mN vu vf mS mU)) q (aU (bG ?_))
 obtain rfl:=Oi h
 exact aV (new:=(wD mI mH mO mE vo mN vu vf mS mU)) q ⟨Zt,Zp,Zf,Zf,Zf,Zt,Zt⟩ ⟨_,q,q,q⟩
 refine Rcc 8 q (Ci h q (λh=>?_) λh=>?_)
 refine Rcc 1 q (am kR kR (Rq 6 q ?_))
 replace h:=av h
 obtain⟨w,h⟩:=h
 refine WQ.qn (ar dG q q (bx w) (bw w)) q (WQ.qn (bJ (off:=1) (n:=16) (λj=> .n (tR j)) q q a2 q w) q (Rq 1 q (WQ.nil (Rxc 2 q (au (WLP.pre 1 (Rl 1 q (WL.nil ?_))))))))
 obtain⟨J,B,h⟩:=aa h
 rcases J with g|R
 dsimp only[Rs.cs] at h
 refine WLP.wing [0,1,2,3,4,5] q q q q (f131_c B) Lw q dC (Re (Re (Rg (Rf (Ro (Ro q)))))) ⟨q,q,q,q,q,q,Zt⟩ Kv q (Zw q) q q (λr' new hS=>?_) (λc new hS=>?_)
 obtain⟨z9,hz,rfl,rfl⟩:=hS
 obtain rfl:=Rs.ok.inj hz
 refine⟨_,_,q,(Re (Re (Rg (Rf (Ro (Ro q)))))),q,Kv,WLP.of ?_⟩
 refine St q (Zn (Rcc 1 q ?_))
 replace h:=av h
 obtain⟨K,h⟩:=h
 apply RT [_,_,_,_,_,_,_,_,_,_,_,_,_,_,_,_, .u] [13,16] [[.row 116 (([.pt 1 0]:lV)++(bf 16 (λj=> .n (g.1 j))++([.n g.2.1, .n g.2.2.1, .n g.2.2.2, .os 5 va]:lV):lV)), .row 90 (mR mI mH mO mE 2 vo mN 4 vu),oS vo 3 vf mS,fS vf mS, .os 2 1 (vu+1) (eM E2 (mU++ [(tR (Int.toNat x1.a))])), .os 58 6 va (eM R58 tA)],[.row 116 (([.pt 1 0]:lV)++(bf 16 (λj=> .n (g.1 j))++([.n g.2.1, .n g.2.2.1, .n g.2.2.2, .os 5 va]:lV):lV)), .row 90 [.l E45 mI, .l cJ mH, .l cL mO, .n mE, .os 2 vo, .l E2 mN, .os 4 (vu+1)],oS vo 3 vf mS,fS vf mS, .os 2 1 (vu+1) (eM E2 (mU++ [(tR (Int.toNat x1.a))])), .os 58 6 va (eM R58 tA)]] [u01 0,u10 0,u10 1,u10 2,p01 0,p10 4,p10 5,p10 6,p10 7,p10 8,p10 9,p01 5,p10 11,p20 10 12,q10 3 1,q10 14 1,q20 15 13 1] kR kR q q
 refine X2d ?_
 refine Y8 ?_
 refine zo (λ_=>WL.s ((NewOs.data (aJ l42 z2 q dC dC q q q dC) (by exact bO fH [(tR (Int.toNat x1.a))])).does) (Zw q) q q (Zd q q q)) ?_
 refine zo (λ_=>WL.s (bR E2 mU [(tR (Int.toNat x1.a))] l42 z2 q dC q q q q (dm Zl fH λ_=>q) (λ_=>q) (λ_=>q) K) (Zw q) q q (Zd q q q)) ?_
 refine Y2 ?_
 exact zo (λ_=>WL.s0 (ct q q q (dc q) s42 q) (Zw q) q (aY q q)) Zt
 refine Rxl 8 q (Zq (aB p58 z58 q q) q (WL.s ((NewOs.b (aJ l50 z58 q dC dC q q q dC)).does) (Zw q) q q ?_))
 replace h:=av h
 obtain⟨L,h⟩:=h
 refine WL.s (bR R58 tA [(Act.mk 0 0 1 (tR (Int.toNat x1.a)) 0 0)] l50 z58 q dC q q q q (Src.own q) (λ_=>q) (λ_=>q) L) (Zw q) q q (Rl 2 q (WL.s0 (ct q q q (dc q) s50 q) (Zw q) q (St q (Rlx 2 q (bK ?_)))))
 obtain rfl:=Oi h
 exact WE.finP (az (new:=[.row 116 (([.pt 1 0]:lV)++(bf 16 (λj=> .n (g.1 j))++([.n g.2.1, .n g.2.2.1, .n g.2.2.2, .os 5 (va+1)]:lV):lV)), .row 90 [.l E45 mI, .l cJ mH, .l cL mO, .n mE, .os 2 vo, .l E2 mN, .os 4 (vu+1)],oS vo 3 vf mS,fS vf mS, .os 2 1 (vu+1) (eM E2 (mU++ [(tR (Int.toNat x1.a))])), .os 58 6 (va+1) (eM R58 (tA++ [(Act.mk 0 0 1 (tR (Int.toNat x1.a)) 0 0)]))]) (r0:= .d (.tu [])) (bT q) (bd Zt) q ⟨Zp,Zp,Zf,Zf,Zf,Zf,Zt⟩ ⟨_,(vu+1),(va+1),q,q,q⟩)
 obtain⟨z9,hz,_⟩:=hS
 cases hz
 dsimp only[Rs.cs] at h
 refine WLP.wing [0,1,2,3,4,5] q q q q (f131_c B) Lw q dC (Re (Re (Rg (Rf (Ro (Ro q)))))) ⟨q,q,q,q,q,q,Zt⟩ Kv q (Zw q) q q (λr' new hS=>?_) (λc new hS=>?_)
 obtain⟨z9,hz,_⟩:=hS
 cases hz
 obtain⟨z9,hz,rfl,rfl⟩:=hS
 obtain rfl:=Rs.bad.inj hz
 refine⟨_,(Re (Re (Rg (Rf (Ro (Re q)))))),Kv,?_⟩
 refine cv (st':=(wD mI mH mO mE vo mN vu vf mS mU)) q (aU (bG ?_))
 obtain rfl:=Oi h
 exact aV (new:=(wD mI mH mO mE vo mN vu vf mS mU)) q ⟨Zt,Zp,Zf,Zf,Zf,Zt,Zt⟩ ⟨_,q,q,q⟩
 refine Rcl 9 q (Zq (ab E2 mN e42 q q Zl) q (Rlc 4 q (Ci h q (λh=>?_) λh=>?_)))
 refine au (WLP.pre 1 (Rl 1 q (WL.nil ?_)))
 obtain⟨M,C,h⟩:=aa h
 rcases M with t|S
 dsimp only[Rs.cs] at h
 refine WLP.wing [0,1,2,3,4,5] q q q q (f56_c C) Lw q dC (Re (Re (Rg (Rf (Ro (Ro q)))))) ⟨q,q,q,q,q,q,Zt⟩ Kv q (Zw q) q q (λr' new hS=>?_) (λc new hS=>?_)
 obtain⟨z9,i5_161,hz,rfl,rfl⟩:=hS
 obtain rfl:=Rs.ok.inj hz
 refine⟨_,_,q,(Re (Re (Rg (Rf (Ro (Ro q)))))),q,Kv,WLP.of ?_⟩
 refine St q (WL.nil (Rxx 1 q (bK ?_)))
 obtain rfl:=Oi h
 exact WE.finP (az (new:=[.row 116 (([.pt 1 0]:lV)++(bf 16 (λj=> .n (t.1 j))++([.n t.2.1, .n t.2.2.1, .n t.2.2.2.1, .os 5 i5_161]:lV):lV)), .row 90 (mR mI mH mO mE 2 vo mN 4 vu),oS vo 3 vf mS,fS vf mS,uS vu mU, .os 58 6 i5_161 (eM R58 t.2.2.2.2)]) (r0:= .d (.tu [])) (bT q) (bd Zt) q ⟨Zp,Zp,Zf,Zf,Zf,Zf,Zt⟩ ⟨_,vu,i5_161,q,q,q⟩)
 obtain⟨z9,hz,_⟩:=hS
 cases hz
 dsimp only[Rs.cs] at h
 refine WLP.wing [0,1,2,3,4,5] q q q q (f56_c C) Lw q dC (Re (Re (Rg (Rf (Ro (Ro q)))))) ⟨q,q,q,q,q,q,Zt⟩ Kv q (Zw q) q q (λr' new hS=>?_) (λc new hS=>?_)
 obtain⟨z9,i5_161,hz,_⟩:=hS
 cases hz
 obtain⟨z9,hz,rfl,rfl⟩:=hS
 obtain rfl:=Rs.bad.inj hz
 refine⟨_,(Re (Re (Rg (Rf (Ro (Re q)))))),Kv,?_⟩
 refine cv (st':=(wD mI mH mO mE vo mN vu vf mS mU)) q (bG ?_)
 obtain rfl:=Oi h
 exact aV (new:=(wD mI mH mO mE vo mN vu vf mS mU)) q ⟨Zt,Zp,Zf,Zf,Zf,Zt,Zt⟩ ⟨_,q,q,q⟩
 refine Rcc 1 q (au (WLP.pre 1 (Rl 1 q (WL.nil ?_))))
 obtain⟨N,E,h⟩:=aa h
 rcases N with e|T
 dsimp only[Rs.cs] at h
 refine WLP.wing [0,1,2,3,4,5] q q q q (f131_c E) Lw q dC (Re (Re (Rg (Rf (Ro (Ro q)))))) ⟨q,q,q,q,q,q,Zt⟩ Kv q (Zw q) q q (λr' new hS=>?_) (λc new hS=>?_)
 obtain⟨z9,hz,rfl,rfl⟩:=hS
 obtain rfl:=Rs.ok.inj hz
 refine⟨_,_,q,(Re (Re (Rg (Rf (Ro (Ro q)))))),q,Kv,WLP.of ?_⟩
 refine St q (Zn (Rcc 1 q ?_))
 obtain⟨m,F,h⟩:=aa h
 replace h:=av h
 obtain⟨y,h⟩:=h
 apply RT [_,_,_,_,_,_,_,_,_,_,_,_,_,_,_,_, .u] [16] [[.row 116 (([.pt 1 0]:lV)++(bf 16 (λj=> .n ((c8 e.1 (Int.toNat x1.d) m) j))++([.n e.2.1, .n e.2.2.1, .n e.2.2.2, .os 5 va]:lV):lV)), .row 90 (mR mI mH mO mE 2 vo mN 4 vu),oS vo 3 vf mS,fS vf mS,uS vu mU, .os 58 6 va (eM R58 tA)]] [p01 0,p01 3,p10 1,p01 0,p10 3,p10 4,p10 5,p10 6,p10 7,p10 8,p10 9,p10 10,p10 0,p10 12,p10 13,p20 14 2,p20 15 11] kR kR q q
 refine Y9 ?_
 refine Y1 ?_
 refine zo (λ_=>Zq (aj e42 q Zl q (ae F) (aR fH F) q) q (Zd q q q)) ?_
 refine Y4 ?_
 refine zo (λ_=>Zq (ar dG q q (bx y) (bw y)) q (Zd q q q)) ?_
 exact zo (λ_=>WL.s0 (eV (off:=1) (n:=16) (cs':=(([.pt 1 0]:lV)++(bf 16 (λj=> .n ((c8 e.1 (Int.toNat x1.d) m) j))++([.n e.2.1, .n e.2.2.1, .n e.2.2.2, .os 5 va]:lV):lV))) (λx=> .n x) e.1 m q q q (iJ q) s2 q q y q) (Zw q) q (aY q q)) Zt
 refine Rxc 2 q ?_
 obtain⟨p,G,h⟩:=aa h
 replace h:=av h
 obtain⟨O,h⟩:=h
 apply RT [_,_,_,_,_,_,_,_,_,_,_,_,_,_,_,_,_,_,_, .u] [16,19] [[.row 116 (([.pt 1 0]:lV)++(bf 16 (λj=> .n ((c8 e.1 (Int.toNat x1.d) m) j))++([.n e.2.1, .n e.2.2.1, .n e.2.2.2, .os 5 va]:lV):lV)), .row 90 (mR mI mH mO mE 2 vo mN 4 vu),oS vo 3 vf mS,fS vf mS,uS vu mU, .os 58 6 (va+1) (eM R58 (tA++ [(Act.mk 0 0 2 p 0 0)]))],[.row 116 (([.pt 1 0]:lV)++(bf 16 (λj=> .n ((c8 e.1 (Int.toNat x1.d) m) j))++([.n e.2.1, .n e.2.2.1, .n e.2.2.2, .os 5 (va+1)]:lV):lV)), .row 90 (mR mI mH mO mE 2 vo mN 4 vu),oS vo 3 vf mS,fS vf mS,uS vu mU, .os 58 6 (va+1) (eM R58 (tA++ [(Act.mk 0 0 2 p 0 0)]))]] [u01 0,p01 0,p10 1,p10 2,p10 3,p01 0,p10 5,p10 6,p10 7,p10 8,p10 9,p10 10,p10 11,p10 12,p10 13,p10 14,p20 4 15,q10 0 1,q10 17 1,q20 18 16 1] kR kR q q
 refine X2a ?_
 refine Y9 ?_
 refine Y2 ?_
 refine zo (λ_=>Zq (aj e42 q Zl q (ae G) (aR fH G) q) q (Zd q q q)) ?_
 refine Y1 ?_
 refine zo (λ_=>Zq (aB p58 z58 q q) q (Zd q q q)) ?_
 refine zo (λ_=>WL.s ((NewOs.data (aJ l50 z58 q dC dC q q q dC) (by exact bO fy [(Act.mk 0 0 2 p 0 0)])).does) (Zw q) q q (Zd q q q)) ?_
 refine zo (λ_=>WL.s (bR R58 tA [(Act.mk 0 0 2 p 0 0)] l50 z58 q dC q q q q (dm Zl fy λ_=>q) (λ_=>q) (λ_=>q) O) (Zw q) q q (Zd q q q)) ?_
 refine Y2 ?_
 exact zo (λ_=>WL.s0 (ct q q q (dc q) s50 q) (Zw q) q (aY q q)) Zt
 refine Rxc 1 q ?_
 replace h:=av h
 obtain⟨P,h⟩:=h
 apply RT [_,_,_,_,_,_,_,_,_,_,_,_,_,_, .u] [14] [[.row 116 (([.pt 1 0]:lV)++(bf 16 (λj=> .n ((c8 e.1 (Int.toNat x1.d) m) j))++([.n e.2.1, .n e.2.2.1, .n e.2.2.2, .os 5 (va+1)]:lV):lV)), .row 90 [.l E45 mI, .l cJ mH, .l cL mO, .n mE, .os 2 vo, .l E2 (cm mN 1 (List.length mN:Int)), .os 4 vu],oS vo 3 vf mS,fS vf mS,uS vu mU, .os 58 6 (va+1) (eM R58 (tA++ [(Act.mk 0 0 2 p 0 0)]))]] [p01 0,p10 0,p10 1,p10 2,p01 0,p10 4,p10 5,p10 6,p10 7,p10 8,p10 9,p10 10,p10 3,p10 12,p20 13 11] kR kR q q
 refine Y9 ?_
 refine Y2 ?_
 refine zo (λ_=>Zq (jC E2 mN (l:=1) (h:=(List.length mN:Int)) e42 q Zl ⟨_,q⟩ q P λ_=>q) q (Zd q q q)) ?_
 refine Y2 ?_
 exact zo (λ_=>sS Z6 s42 Z2 (aY q q)) Zt
 refine Rxx 1 q (bK ?_)
 obtain rfl:=Oi h
 exact WE.finP (az (new:=[.row 116 (([.pt 1 0]:lV)++(bf 16 (λj=> .n ((c8 e.1 (Int.toNat x1.d) m) j))++([.n e.2.1, .n e.2.2.1, .n e.2.2.2, .os 5 (va+1)]:lV):lV)), .row 90 [.l E45 mI, .l cJ mH, .l cL mO, .n mE, .os 2 vo, .l E2 (cm mN 1 (List.length mN:Int)), .os 4 vu],oS vo 3 vf mS,fS vf mS,uS vu mU, .os 58 6 (va+1) (eM R58 (tA++ [(Act.mk 0 0 2 p 0 0)]))]) (r0:= .d (.tu [])) (bT q) (bd Zt) q ⟨Zp,Zp,Zf,Zf,Zf,Zf,Zt⟩ ⟨_,vu,(va+1),q,q,q⟩)
 obtain⟨z9,hz,_⟩:=hS
 cases hz
 dsimp only[Rs.cs] at h
 refine WLP.wing [0,1,2,3,4,5] q q q q (f131_c E) Lw q dC (Re (Re (Rg (Rf (Ro (Ro q)))))) ⟨q,q,q,q,q,q,Zt⟩ Kv q (Zw q) q q (λr' new hS=>?_) (λc new hS=>?_)
 obtain⟨z9,hz,_⟩:=hS
 cases hz
 obtain⟨z9,hz,rfl,rfl⟩:=hS
 obtain rfl:=Rs.bad.inj hz
 refine⟨_,(Re (Re (Rg (Rf (Ro (Re q)))))),Kv,?_⟩
 refine cv (st':=(wD mI mH mO mE vo mN vu vf mS mU)) q (aU (bG ?_))
 obtain rfl:=Oi h
 exact aV (new:=(wD mI mH mO mE vo mN vu vf mS mU)) q ⟨Zt,Zp,Zf,Zf,Zf,Zt,Zt⟩ ⟨_,q,q,q⟩

theorem f87_c{tR:Nat→Int}{tP:Int}{tX:Int}{tD:Int}{mI:lN}{mH:lH}{mO:lO}{mE:Int}{mN:lI}{mS:lL}{mU:lI}{tA:lA}{x1:ak}{vo:Nat}{vf:Nat}{vu:Nat}{va:Nat}{r:Rs ((Nat→Int)×Int×Int×Int)}(h:f87 tR tP tX tD mI mH mO mE mN mS mU tA x1=some r):CtrP prog 87 [.pt 0 0, .d (.ag (R45 x1))] (wT tR tP tX tD va mI mH mO mE vo mN vu vf mS mU tA) (cX 6 (λr' new=>∃(z:(Nat→Int)×Int×Int×Int),r= .ok z∧r'= .d (.tu [])∧new=[.row 116 (([.pt 1 0]:lV)++(bf 16 (λj=> .n (z.1 j))++([.n z.2.1, .n z.2.2.1, .n z.2.2.2, .os 5 va]:lV):lV)), .row 90 (mR mI mH mO mE 2 vo mN 4 vu),oS vo 3 vf mS,fS vf mS,uS vu mU, .os 58 6 va (eM R58 tA)])) (dU 6 (λc new=>∃(ee:Int),r= .bad ee∧c=cF ee∧new=(wD mI mH mO mE vo mN vu vf mS mU))):=by
 unfold f87 at h
 refine bC func87 kR q q q (λmm φφ ww hmm=>?_)
 refine Rcl 2 q (Bd q q (Zs _) q (Rlc 2 q (Jn2 (λ_ _=> [(0, .pt 0 0)]) (λp t=> [.row 116 (tQ 1 p tP tX t 5 va), .row 90 (mR mI mH mO mE 2 vo mN 4 vu),oS vo 3 vf mS,fS vf mS,uS vu mU, .os 58 6 va (eM R58 tA)]) h (λ_ h=>?_) λp t h=>?_)))
 refine Rcc 13 q (Ci h q (λh=>?_) λh=>?_)
 replace h:=av h
 obtain⟨f,h⟩:=h
 apply RT [_,_,_,_,_,_,_,_,_, .u] [9] [[.row 116 (([.pt 1 0]:lV)++(bf 16 (λj=> .n ((c8 tR (Int.toNat x1.d) x1.n) j))++([.n tP, .n tX, .n tD, .os 5 va]:lV):lV)), .row 90 (mR mI mH mO mE 2 vo mN 4 vu),oS vo 3 vf mS,fS vf mS,uS vu mU, .os 58 6 va (eM R58 tA)]] [p01 0,p01 3,p10 1,p01 3,p10 3,p10 0,p10 5,p10 6,p20 7 2,p20 8 4] kR kR q q
 refine Y8 ?_
 refine zo (λ_=>Zq (ar dG q q (bx f) (bw f)) q (Zd q q q)) ?_
 exact zo (λ_=>WL.s0 (eV (off:=1) (n:=16) (cs':=(([.pt 1 0]:lV)++(bf 16 (λj=> .n ((c8 tR (Int.toNat x1.d) x1.n) j))++([.n tP, .n tX, .n tD, .os 5 va]:lV):lV))) (λx=> .n x) tR x1.n q q q (iJ q) s2 q q f q) (Zw q) q (aY q q)) Zt
 exact Rxx 1 q (En2 h)
 refine Rcc 6 q (Ci h q (λh=>?_) λh=>?_)
 replace h:=av h
 obtain⟨g,h⟩:=h
 replace h:=av h
 obtain⟨k,h⟩:=h
 apply RT [_,_,_,_,_,_,_,_,_,_,_,_,_,_,_, .u] [15] [[.row 116 (([.pt 1 0]:lV)++(bf 16 (λj=> .n ((c8 tR (Int.toNat x1.d) (tR (Int.toNat x1.a))) j))++([.n tP, .n tX, .n tD, .os 5 va]:lV):lV)), .row 90 (mR mI mH mO mE 2 vo mN 4 vu),oS vo 3 vf mS,fS vf mS,uS vu mU, .os 58 6 va (eM R58 tA)]] [p01 0,p01 3,p10 1,p01 0,p01 3,p10 4,p10 3,p10 6,p10 7,p20 8 5,p10 9,p10 0,p10 11,p10 12,p20 13 2,p20 14 10] kR kR q q
 refine Y9 ?_
 refine zo (λ_=>Zq (ar dG q q (bx g) (bw g)) q (Zd q q q)) ?_
 refine zo (λ_=>Zq (bJ (off:=1) (n:=16) (λj=> .n (tR j)) q q a2 q g) q (Zd q q q)) ?_
 refine Y3 ?_
 refine zo (λ_=>Zq (ar dG q q (bx k) (bw k)) q (Zd q q q)) ?_
 exact zo (λ_=>WL.s0 (eV (off:=1) (n:=16) (cs':=(([.pt 1 0]:lV)++(bf 16 (λj=> .n ((c8 tR (Int.toNat x1.d) (tR (Int.toNat x1.a))) j))++([.n tP, .n tX, .n tD, .os 5 va]:lV):lV))) (λx=> .n x) tR (tR (Int.toNat x1.a)) q q q (iJ q) s2 q q k q) (Zw q) q (aY q q)) Zt
 exact Rxx 1 q (En2 h)
 refine Rcc 6 q (Ci h q (λh=>?_) λh=>?_)
 replace h:=av h
 obtain⟨m,h⟩:=h
 apply RT [_,_,_,_,_,_,_,_,_,_,_,_, .u] [12] [[.row 116 (([.pt 1 0]:lV)++(bf 16 (λj=> .n ((c8 tR (Int.toNat x1.d) tX) j))++([.n tP, .n tX, .n tD, .os 5 va]:lV):lV)), .row 90 (mR mI mH mO mE 2 vo mN 4 vu),oS vo 3 vf mS,fS vf mS,uS vu mU, .os 58 6 va (eM R58 tA)]] [p01 0,p01 3,p10 1,p01 0,p10 3,p10 4,p10 5,p10 6,p10 0,p10 8,p10 9,p20 10 2,p20 11 7] kR kR q q
 refine Y9 ?_
 refine Y2 ?_
 refine zo (λ_=>Zq (ar dG q q (bx m) (bw m)) q (Zd q q q)) ?_
 exact zo (λ_=>WL.s0 (eV (off:=1) (n:=16) (cs':=(([.pt 1 0]:lV)++(bf 16 (λj=> .n ((c8 tR (Int.toNat x1.d) tX) j))++([.n tP, .n tX, .n tD, .os 5 va]:lV):lV))) (λx=> .n x) tR tX q q q (iJ q) s2 q q m q) (Zw q) q (aY q q)) Zt
 exact Rxx 1 q (En2 h)
 refine Rcc 6 q (Ci h q (λh=>Rcl 10 q (sS Z6 s3 Z2 (St q (Rlx 2 q (En2 h))))) λh=>?_)
 exact Rcc 6 q (Ci h q (λh=>Rcl 10 q (sS Z6 s3 Z2 (St q (Rlx 2 q (En2 h))))) λh=>Rcx 2 q (En2 h))
 refine Rcl 10 q ?_
 refine OG 7 76 83 7 7 ?_
 refine Rlc 2 q (Ci h q (λh=>?_) λh=>?_)
 refine au (WLP.wing [] q q q q (f102_c (r:=Rs.bad 280) q) Zt q dC q Zt q q (Zw q) q q (λr' new hS=>?_) λc new hS=>?_)
 obtain⟨z9,hz,_⟩:=hS
 cases hz
 obtain⟨z9,hz,rfl,rfl⟩:=hS
 obtain rfl:=Rs.bad.inj hz
 refine⟨_,q,q,?_⟩
 refine aU ?_
 obtain rfl:=Oi h
 exact aV (new:=(wD mI mH mO mE vo mN vu vf mS mU)) q ⟨Zt,Zp,Zf,Zf,Zf,Zt,Zt⟩ ⟨_,q,q,q⟩
 refine Rcc 2 q (au (WLP.pre 1 (Rl 1 q (WL.nil ?_))))
 obtain⟨y,w,h⟩:=aa h
 rcases y with e|A
 dsimp only[Rs.cs] at h
 refine WLP.wing [0,1,2,3,4,5] q q q q (f131_c w) Lw q dC (Re (Re (Rg (Rf (Ro (Ro q)))))) ⟨q,q,q,q,q,q,Zt⟩ Kv q (Zw q) q q (λr' new hS=>?_) (λc new hS=>?_)
 obtain⟨z9,hz,rfl,rfl⟩:=hS
 obtain rfl:=Rs.ok.inj hz
 refine⟨_,_,q,(Re (Re (Rg (Rf (Ro (Ro q)))))),q,Kv,WLP.of ?_⟩
 refine St q (WL.nil (bK ?_))
 obtain rfl:=Oi h
 exact WE.finP (az (new:=[.row 116 (([.pt 1 0]:lV)++(bf 16 (λj=> .n (e.1 j))++([.n e.2.1, .n e.2.2.1, .n e.2.2.2, .os 5 va]:lV):lV)), .row 90 (mR mI mH mO mE 2 vo mN 4 vu),oS vo 3 vf mS,fS vf mS,uS vu mU, .os 58 6 va (eM R58 tA)]) (r0:= .d (.tu [])) (bT q) (bd Zt) q ⟨Zp,Zp,Zf,Zf,Zf,Zf,Zt⟩ ⟨_,q,q,q⟩)
 obtain⟨z9,hz,_⟩:=hS
 cases hz
 dsimp only[Rs.cs] at h
 refine WLP.wing [0,1,2,3,4,5] q q q q (f131_c w) Lw q dC (Re (Re (Rg (Rf (Ro (Ro q)))))) ⟨q,q,q,q,q,q,Zt⟩ Kv q (Zw q) q q (λr' new hS=>?_) (λc new hS=>?_)
 obtain⟨z9,hz,_⟩:=hS
 cases hz
 obtain⟨z9,hz,rfl,rfl⟩:=hS
 obtain rfl:=Rs.bad.inj hz
 refine⟨_,(Re (Re (Rg (Rf (Ro (Re q)))))),Kv,?_⟩
 refine cv (st':=(wD mI mH mO mE vo mN vu vf mS mU)) q ?_
 obtain rfl:=Oi h
 exact aV (new:=(wD mI mH mO mE vo mN vu vf mS mU)) q ⟨Zt,Zp,Zf,Zf,Zf,Zt,Zt⟩ ⟨_,q,q,q⟩

theorem f181_c{a0:Int}{b1:Int}:Pu prog 181 [.i .i64 a0, .i .i64 b1] (.i .i64 (f181 a0 b1)):=by
 generalize h:f181 a0 b1=r
 unfold f181 at h
 refine fI func181 λ_ _=>?_
 exact Rcx 14 q (FB h)

theorem f182_c{a0:Int}{b1:Int}:Pu prog 182 [.i .i64 a0, .i .i64 b1] (.i .i64 (f182 a0 b1)):=by
 generalize h:f182 a0 b1=r
 unfold f182 at h
 refine fI func182 λ_ _=>?_
 exact Rcx 14 q (FB h)

theorem f183_c{a0:Int}{b1:Int}:Pu prog 183 [.i .i64 a0, .i .i64 b1] (.i .i64 (f183 a0 b1)):=by
 generalize h:f183 a0 b1=r
 unfold f183 at h
 refine fI func183 λ_ _=>?_
 exact Rcx 14 q (FB h)

theorem f185_c{a0:Int}{b1:Int}{r:Int}(h:f185 a0 b1=some r):Pu prog 185 [.i .i64 a0, .i .i64 b1] (.i .i64 r):=by
 unfold f185 at h
 refine fI func185 λ_ _=>?_
 refine Rcl 9 q ?_
 replace h:=av h
 obtain⟨a,h⟩:=h
 exact Zq (y_quo q q (pb a) q) q (Rlx 4 q (FA h))

theorem f186_c{a0:Int}{b1:Int}{r:Int}(h:f186 a0 b1=some r):Pu prog 186 [.i .i64 a0, .i .i64 b1] (.i .i64 r):=by
 unfold f186 at h
 refine fI func186 λ_ _=>?_
 refine Rcl 9 q ?_
 replace h:=av h
 obtain⟨a,h⟩:=h
 exact Zq (qo q q (pb a)) q (Rlx 4 q (FA h))

theorem f187_c{a0:Int}{b1:Int}{r:Int}(h:f187 a0 b1=some r):Pu prog 187 [.i .i64 a0, .i .i64 b1] (.i .i64 r):=by
 unfold f187 at h
 refine fI func187 λ_ _=>?_
 refine Rcl 10 q ?_
 replace h:=av h
 obtain⟨a,h⟩:=h
 refine Zq (qo q q (pb a)) q (Rll 8 q ?_)
 apply WL.or 5 (t:=11) (d:=16)
 exact q
 intro f
 exact Rl 2 q (Zy (ta q q q) q q q (Rl 2 q (WL.nil ⟨q,[_,_,_,_,_],q,q,q⟩)))
 exact Rn 5 5
 refine Rlc 2 q (Ci h q (λh=>Rcx 8 q (FA h)) λh=>?_)
 refine Rcl 6 q ?_
 replace h:=av h
 obtain⟨e,h⟩:=h
 exact Zq (qo q q (pb e)) q (Rlx 6 q (FA h))

theorem f217_c{a:Bool}:Pu prog 217 [.b a] (.i .i64 (f217 a)):=by
 generalize h:f217 a=r
 unfold f217 at h
 refine fI func217 λ_ _=>?_
 exact Rcc 11 q (Ci h q (λh=>Rcx 7 q (FB h)) λh=>Rcx 8 q (FB h))

theorem f189_c{a0:Int}{b1:Int}:Pu prog 189 [.i .i64 a0, .i .i64 b1] (.b (f189 a0 b1)):=by
 generalize h:f189 a0 b1=r
 unfold f189 at h
 refine fI func189 λ_ _=>?_
 exact Rcx 14 q (FB h)

theorem f190_c{a0:Int}{b1:Int}:Pu prog 190 [.i .i64 a0, .i .i64 b1] (.b (f190 a0 b1)):=by
 generalize h:f190 a0 b1=r
 unfold f190 at h
 refine fI func190 λ_ _=>?_
 exact Rcx 14 q (FB h)

theorem f191_c{a0:Int}{b1:Int}:Pu prog 191 [.i .i64 a0, .i .i64 b1] (.b (f191 a0 b1)):=by
 generalize h:f191 a0 b1=r
 unfold f191 at h
 refine fI func191 λ_ _=>?_
 exact Rcx 14 q (FB h)

theorem f192_c{a0:Int}{b1:Int}:Pu prog 192 [.i .i64 a0, .i .i64 b1] (.b (f192 a0 b1)):=by
 generalize h:f192 a0 b1=r
 unfold f192 at h
 refine fI func192 λ_ _=>?_
 exact Rcx 14 q (FB h)

theorem f193_c{a0:Int}{b1:Int}:Pu prog 193 [.i .i64 a0, .i .i64 b1] (.b (f193 a0 b1)):=by
 generalize h:f193 a0 b1=r
 unfold f193 at h
 refine fI func193 λ_ _=>?_
 exact Rcx 14 q (FB h)

theorem f194_c{a0:Int}{b1:Int}:Pu prog 194 [.i .i64 a0, .i .i64 b1] (.b (f194 a0 b1)):=by
 generalize h:f194 a0 b1=r
 unfold f194 at h
 refine fI func194 λ_ _=>?_
 exact Rcx 14 q (FB h)

theorem f195_c{a0:Int}{b1:Int}:Pu prog 195 [.i .i64 a0, .i .i64 b1] (.i .i64 (f195 a0 b1)):=by
 generalize h:f195 a0 b1=r
 unfold f195 at h
 refine fI func195 λ_ _=>?_
 exact Rcl 9 q (Zq (td q q q) q (Rlx 4 q (FB h)))

theorem f196_c{a0:Int}{b1:Int}:Pu prog 196 [.i .i64 a0, .i .i64 b1] (.i .i64 (f196 a0 b1)):=by
 generalize h:f196 a0 b1=r
 unfold f196 at h
 refine fI func196 λ_ _=>?_
 exact Rcl 9 q (Zq (tM q q q) q (Rlx 4 q (FB h)))

theorem f197_c{a0:Int}{b1:Int}:Pu prog 197 [.i .i64 a0, .i .i64 b1] (.i .i64 (f197 a0 b1)):=by
 generalize h:f197 a0 b1=r
 unfold f197 at h
 refine fI func197 λ_ _=>?_
 exact Rcl 9 q (Zq (ta q q q) q (Rlx 4 q (FB h)))

theorem f198_c{a0:Int}{p1:Int}:Pu prog 198 [.i .i64 a0, .i .i64 p1] (.i .i64 (f198 a0 p1)):=by
 generalize h:f198 a0 p1=r
 unfold f198 at h
 refine fI func198 λ_ _=>?_
 exact Rcx 13 q (FB h)

theorem f199_c{a0:Int}{p1:Int}:Pu prog 199 [.i .i64 a0, .i .i64 p1] (.i .i64 (f199 a0 p1)):=by
 generalize h:f199 a0 p1=r
 unfold f199 at h
 refine fI func199 λ_ _=>?_
 exact Rcl 10 q (Zq (oU q q q) q (Rlx 4 q (FB h)))

theorem f200_c{a0:Int}{p1:Int}:Pu prog 200 [.i .i64 a0, .i .i64 p1] (.i .i64 (f200 a0 p1)):=by
 generalize h:f200 a0 p1=r
 unfold f200 at h
 refine fI func200 λ_ _=>?_
 exact Rcx 13 q (FB h)

end Go.Proofs.YtkbahggepncliaaGreatDoor
