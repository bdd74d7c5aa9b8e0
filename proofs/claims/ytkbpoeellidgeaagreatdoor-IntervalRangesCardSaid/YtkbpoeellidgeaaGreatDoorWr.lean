/- The walks of the reference. -/
import Derived.Test.YtkbpoeellidgeaaGreatDoorWtb
set_option linter.unusedVariables false
set_option linter.unusedSimpArgs false
set_option linter.unusedSectionVars false
set_option linter.unnecessarySimpa false
set_option maxHeartbeats 4000000
set_option maxRecDepth 100000
namespace Go.Proofs.YtkbpoeellidgeaaGreatDoor
open Go.Proofs.Tryz
open Go Go.Sk

theorem f30_c{t0:al}{o1:Obj}{r:Bool}(h:f30 t0 o1=some r):Pu prog 30 [.ag (R33 t0), .ag (R53 o1)] (.b r):=by
 unfold f30 at h
 refine fI func30 λ_ _=>?_
 refine Rcl 2 q (Bd q q (Zs _) q (Bd q q (Zs _) q (Rll 10 q ?_)))
 refine OG 4 10 14 4 4 ?_
 refine Rl 1 q ?_
 refine OG 6 15 21 6 6 ?_
 refine Rl 1 q ?_
 apply WL.or 10 (t:=22) (d:=32)
 exact q
 intro B
 refine Rl 4 q ?_
 apply WL.and 5 (t:=26) (d:=31)
 exact q
 intro C
 exact Rl 2 q (Zy (ab E3 o1.set_ e51 q q Zl) q q q (Rl 2 q (WL.nil ⟨q,[_,_,_,_,_],q,q,q⟩)))
 exact Rn 5 5
 exact Rn 1 6
 exact Rn 10 10
 refine Rl 1 q ?_
 apply WL.or 13 (t:=33) (d:=46)
 exact q
 intro E
 refine Rl 3 q ?_
 apply WL.and 9 (t:=36) (d:=45)
 exact q
 intro F
 refine Rl 4 q ?_
 refine OG 4 40 44 4 4 ?_
 exact Rn 1 6
 exact Rn 9 9
 exact Rn 1 5
 exact Rn 13 13
 refine Rlc 2 q (Ci h q (λh=>Rcx 7 q (FA h)) λh=>?_)
 refine Rcc 2 q (Jn0 [] [] h (λg h=>?_) λh=>?_)
 refine Rcc 6 q (Ln1 (λa=> [(2, .d (.pc (R33 t0))),(3, .d (.pc (R53 o1))),(5, .n a)]) (λ_=> []) (f30_l1 t0 o1 g) h (λ_ h=>by rw[f30_l1] at h;cases h) λn a h=>?_)
 rw[f30_l1] at h
 refine Rcl 6 q (Zq (ab E3 o1.set_ e51 q q Zl) q (Rlc 3 q (Ci h q (λh=>?_) λh=>?_)))
 refine Rcl 9 q (Ix h e51 du q Zl q q λG _ h=>(Rll 9 q ?_))
 apply WL.or 6 (t:=61) (d:=67)
 exact q
 intro H
 exact Rl 3 q (Zy (ab E53 t0.objs e27 q q Zl) q q q (Rl 2 q (WL.nil ⟨q,[_,_,_,_,_,_],q,q,q⟩)))
 exact Rn 6 6
 refine Rl 1 q ?_
 obtain⟨j,k,h⟩:=ae h
 refine Gg 8 68 76 j k (λh=>?_) (λh=>?_) ?_
 exact On 8 8 h
 refine Rl 3 q ?_
 obtain⟨I,c,h⟩:=ae h
 exact Zy (ah e27 q Zl q (af c) (an cA c) q) q q q (On 4 8 h)
 refine Rl 1 q ?_
 obtain⟨m,p,h⟩:=ae h
 refine Gg 7 77 84 m p (λh=>?_) (λh=>?_) ?_
 exact On 7 7 h
 refine Rl 3 q ?_
 obtain⟨K,e,h⟩:=ae h
 exact Zy (ah e27 q Zl q (af e) (an cA e) q) q q q (On 3 7 h)
 refine Rl 1 q ?_
 obtain⟨w,x,h⟩:=ae h
 refine Gg 13 85 98 w x (λh=>?_) (λh=>?_) ?_
 exact On 13 13 h
 refine Rl 3 q ?_
 obtain⟨y,A,h⟩:=ae h
 refine Gg 9 88 97 y A (λh=>?_) (λh=>?_) ?_
 refine Rl 4 q ?_
 obtain⟨L,f,h⟩:=ae h
 exact Zy (ah e51 q Zl q (af f) (an du f) q) q q q (On 4 9 h)
 exact On 9 9 h
 exact On 1 5 h
 exact Rlc 2 q (Ci h q (λh=>Rcx 11 q (FA h)) λh=>Rcx 8 q (Fn1 h))
 exact Rcx 4 q (En0 h)
 exact Rcx 6 q (FA h)

theorem f31_c{t0:al}{o1:Int}{a:Int}{c:Int}{r:Bool}(h:f31 t0 o1 a c=some r):Pu prog 31 [.ag (R33 t0), .i .i64 o1, .i .i64 a, .i .i64 c] (.b r):=by
 unfold f31 at h
 refine fI func31 λ_ _=>?_
 refine Rcl 2 q (Bd q q (Zs _) q (Rll 8 q ?_))
 apply WL.and 6 (t:=11) (d:=17)
 exact q
 intro j
 exact Rl 3 q (Zy (ab E53 t0.objs e27 q q Zl) q q q (Rl 2 q (WL.nil ⟨q,[_,_,_,_,_,_],q,q,q⟩)))
 exact Rn 6 6
 refine Rl 1 q ?_
 refine AG 3 18 21 3 3 ?_
 refine Rl 1 q ?_
 refine AG 3 22 25 3 3 ?_
 refine Rl 1 q ?_
 obtain⟨f,g,h⟩:=ae h
 refine Gg 11 26 37 f g (λh=>?_) (λh=>?_) ?_
 refine Rl 4 q ?_
 obtain⟨k,e,h⟩:=ae h
 exact Zy (ah e27 q Zl q (af e) (an cA e) q) q q q (On 6 11 h)
 exact On 11 11 h
 exact Rlx 4 q (FA h)

theorem f32_c{o0:Obj}{v1:Int}{r:Bool}(h:f32 o0 v1=some r):Pu prog 32 [.ag (R53 o0), .i .i64 v1] (.b r):=by
 unfold f32 at h
 refine fI func32 λ_ _=>?_
 refine Rcl 2 q (Bd q q (Zs _) q (Rlc 11 q (Ci h q (λh=>?_) λh=>?_)))
 refine Rcl 7 q ?_
 refine AG 5 13 18 5 5 ?_
 exact Rlx 5 q (FA h)
 refine Rcc 2 q (Jn0 [(1, .n v1)] [] h (λc h=>?_) λh=>?_)
 refine Rcc 6 q (Ln1 (λa=> [(1, .n v1),(2, .d (.pc (R53 o0))),(5, .n a)]) (λ_=> []) (f32_l1 o0 v1 c) h (λ_ h=>by rw[f32_l1] at h;cases h) λn a h=>?_)
 rw[f32_l1] at h
 refine Rcl 6 q (Zq (ab E3 o0.set_ e51 q q Zl) q (Rlc 3 q (Ci h q (λh=>?_) λh=>?_)))
 refine Rcl 10 q (Ix h e51 du q Zl q q λe _ h=>(Rlc 5 q (Ci h q (λh=>?_) λh=>?_)))
 exact Rcx 11 q (FA h)
 exact Rcx 8 q (Fn1 h)
 exact Rcx 4 q (En0 h)
 exact Rcx 8 q (FA h)

theorem f11_c{t0:al}{r:Bool}(h:f11 t0=some r):Pu prog 11 [.ag (R33 t0)] (.b r):=by
 unfold f11 at h
 refine fI func11 λ_ _=>?_
 refine Rcl 2 q (Bd q q (Zs _) q (Rll 8 q (Zq (ab E53 t0.objs e27 q q Zl) q (Rl 2 q ?_))))
 refine OG 4 12 16 4 4 ?_
 refine Rl 1 q ?_
 refine OG 4 17 21 4 4 ?_
 refine Rl 1 q ?_
 apply WL.or 5 (t:=22) (d:=27)
 exact q
 intro M
 exact Rl 2 q (Zy (ab E80 t0.inits e28 q q Zl) q q q (Rl 2 q (WL.nil ⟨q,[_,_,_,_,_],q,q,q⟩)))
 exact Rn 5 5
 refine Rlc 2 q (Ci h q (λh=>Rcx 7 q (FA h)) λh=>?_)
 refine Rcc 7 q (Jn1 (λa=> [(1, .d (.pc (R33 t0))),(3, .n a)]) (λ_=> []) h (λC h=>?_) λa h=>?_)
 refine Rcc 6 q (Ln2 (λj k=> [(1, .d (.pc (R33 t0))),(3, .n j),(4, .n k)]) (λ_ _=> []) (f11_l1 t0 C) h (λ_ _ h=>by rw[f11_l1] at h;cases h) λn j k h=>?_)
 rw[f11_l1] at h
 refine Rcl 6 q (Zq (ab E53 t0.objs e27 q q Zl) q (Rlc 3 q (Ci h q (λh=>?_) λh=>?_)))
 refine Rcc 6 q (av kR kR (Rq 4 q ?_))
 obtain⟨N,m,h⟩:=ae h
 refine WQ.qn (ah e27 q Zl q (af m) (an cA m) q) q (Rq 1 q ?_)
 obtain⟨O,E,h⟩:=ae h
 refine WQ.q (YieldsQ.fn q q q q q (f30_c E) Lw) (Zw q) q q (Rq 1 q (WQ.nil (Rxc 1 q (Ci h q (λh=>?_) λh=>?_))))
 exact Rcx 12 q (FA h)
 exact Rcl 7 q (Ix h e27 cA q Zl q q λP _ h=>(Rlx 12 q (Fn2 h)))
 exact Rcx 4 q (En1 h)
 refine Jn0 [(3, .n a)] [] h (λF h=>?_) (λh=>?_)
 refine Rcc 6 q (Ln1 (λc=> [(1, .d (.pc (R33 t0))),(3, .n a),(5, .n c)]) (λ_=> []) (f11_l2 t0 F) h (λ_ h=>by rw[f11_l2] at h;cases h) λn c h=>?_)
 rw[f11_l2] at h
 refine Rcl 6 q (Zq (ab E80 t0.inits e28 q q Zl) q (Rlc 3 q (Ci h q (λh=>?_) λh=>?_)))
 refine Rcc 2 q (Jn3 (λ_ _ _=> [(1, .d (.pc (R33 t0))),(3, .n a),(5, .n c)]) (λc00v126 c01v127 c02v128=> [.row 80 [.n c00v126, .n c01v127, .n c02v128]]) h (λG h=>?_) λc00v126 c01v127 c02v128 h=>?_)
 refine Rcl 6 q (Ix h e28 fK q Zl q q λe _ h=>(Rl 1 q (Al z80 q (sS Z6 s80 Z2 (Rlc 4 q (av kR kR (Rq 5 q ?_)))))))
 obtain⟨Q,H,h⟩:=ae h
 refine WQ.q (YieldsQ.fn q q q q q (f31_c H) Lw) (Zw q) q q (Rq 2 q ?_)
 obtain⟨I,p,h⟩:=ae h
 apply WQ.grp 11 (t:=70) (d:=81) (z:=I)
 exact q
 intro f
 have h:=cG p f
 refine Rq 11 q ?_
 obtain rfl:=Oi h
 exact WQ.nil ⟨[_,_,_,_,_,_,_,_,_,_,_],q,q,q⟩
 intro f
 have h:=cH p f
 refine Rq 4 q ?_
 obtain⟨R,w,h⟩:=ae h
 refine WQ.qy (ah e27 q Zl q (af w) (an cA w) q) q q q (Rq 3 q ?_)
 obtain⟨S,K,h⟩:=ae h
 refine WQ.q (YieldsQ.fn q q q q q (f32_c K) Lw) (aG q q q) q q (Rq 2 q ?_)
 obtain rfl:=Oi h
 exact WQ.nil ⟨[_,_,_,_,_,_,_,_,_,_,_],q,q,q⟩
 refine WQ.nil (Rxc 1 q (Ci h q (λh=>?_) λh=>?_))
 exact Rcx 12 q (FA h)
 refine Rcc 8 q (Ln1 (λx=> [(1, .d (.pc (R33 t0))),(3, .n a),(5, .n c),(6, .pt 0 0),(7, .n x)]) (λ_=> [.row 80 [.n e.o, .n e.slot, .n e.v]]) (f11_l3 t0 c G e) h (λ_ h=>by rw[f11_l3] at h;cases h) λna x h=>?_)
 rw[f11_l3] at h
 refine Rcc 8 q (Ci h q (λh=>?_) λh=>?_)
 refine Rcc 5 q (av kR kR (Rq 3 q ?_))
 obtain⟨T,y,h⟩:=ae h
 refine WQ.qn (ah e28 q Zl q (af y) (an fK y) q) q (Rq 6 q ?_)
 obtain⟨L,A,h⟩:=ae h
 apply WQ.grp 10 (t:=96) (d:=106) (z:=L)
 exact q
 intro g
 have h:=cG A g
 refine Rq 3 q ?_
 obtain⟨U,B,h⟩:=ae h
 refine WQ.qy (ah e28 q Zl q (af B) (an fK B) q) q q q (Rq 6 q ?_)
 obtain rfl:=Oi h
 exact WQ.nil ⟨[_,_,_,_,_,_,_,_,_,_],q,q,q⟩
 intro g
 have h:=cH A g
 refine Rq 10 q ?_
 obtain rfl:=Oi h
 exact WQ.nil ⟨[_,_,_,_,_,_,_,_,_,_],q,q,q⟩
 refine WQ.nil (Rxc 1 q (Ci h q (λh=>?_) λh=>?_))
 exact Rcx 15 q (FA h)
 exact Rcx 8 q (Fn1 h)
 exact Rcx 5 q (En3 h)
 exact Rcx 5 q (WE.drop 0 (env':=[(1, .d (.pc (R33 t0))),(3, .n a),(5, .n (IntKind.i64.wrap (c+1)))]) Sb q q (Nat.zero_le _) (Fn1 h))
 exact Rcx 4 q (En0 h)
 exact Rcx 8 q (FA h)

theorem f33_c{t0:al}{a1:Int}:Pu prog 33 [.ag (R33 t0), .i .i64 a1] (.b (f33 t0 a1)):=by
 generalize h:f33 t0 a1=r
 unfold f33 at h
 refine fI func33 λ_ _=>?_
 refine Rcl 2 q (Bd q q (Zs _) q (Rll 8 q ?_))
 apply WL.and 6 (t:=7) (d:=13)
 exact q
 intro a
 exact Rl 3 q (Zy (ab E59 t0.insns e22 q q Zl) q q q (Rl 2 q (WL.nil ⟨q,[_,_,_,_,_,_],q,q,q⟩)))
 exact Rn 6 6
 exact Rlx 4 q (FB h)

theorem f34_c{t0:al}{l1:lI}{r:Bool}(h:f34 t0 l1=some r):Pu prog 34 [.ag (R33 t0), .sl (List.map E3 l1)] (.b r):=by
 unfold f34 at h
 refine fI func34 λ_ _=>?_
 refine Rcl 2 q (Bd q q (Zs _) q (Rll 7 q (Zq (ab E3 l1 e51 q q Zl) q (Rlc 3 q (Ci h q (λh=>?_) λh=>?_)))))
 exact Rcx 7 q (FA h)
 refine Rcc 2 q (Jn0 [] [] h (λw h=>?_) λh=>?_)
 refine Rcc 6 q (Ln1 (λe=> [(1, .l E3 l1),(2, .d (.pc (R33 t0))),(5, .n e)]) (λ_=> []) (f34_l1 t0 l1 w) h (λ_ h=>by rw[f34_l1] at h;cases h) λn e h=>?_)
 rw[f34_l1] at h
 refine Rcl 5 q (Zq (ab E3 l1 e51 q q Zl) q (Rlc 3 q (Ci h q (λh=>?_) λh=>?_)))
 refine Rcc 5 q (av kR kR (Rq 2 q ?_))
 obtain⟨A,f,h⟩:=ae h
 refine WQ.qn (ah e51 q Zl q (af f) (an du f) q) q (Rq 3 q ?_)
 obtain⟨x,g,h⟩:=ae h
 apply WQ.grp 9 (t:=20) (d:=29) (z:=x)
 exact q
 intro a
 have h:=cG g a
 refine Rq 9 q ?_
 obtain rfl:=Oi h
 exact WQ.nil ⟨[_,_,_,_,_,_,_,_,_],q,q,q⟩
 intro a
 have h:=cH g a
 refine Rq 2 q ?_
 obtain⟨B,j,h⟩:=ae h
 refine WQ.qy (ah e51 q Zl q (af j) (an du j) q) q q q (Rq 3 q (WQ.qy (ab E53 t0.objs e27 q q Zl) q q q (Rq 2 q ?_)))
 obtain rfl:=Oi h
 exact WQ.nil ⟨[_,_,_,_,_,_,_,_,_],q,q,q⟩
 refine Rq 1 q ?_
 obtain⟨y,k,h⟩:=ae h
 apply WQ.grp 11 (t:=30) (d:=41) (z:=y)
 exact q
 intro c
 have h:=cG k c
 refine Rq 11 q ?_
 obtain rfl:=Oi h
 exact WQ.nil ⟨[_,_,_,_,_,_,_,_,_,_,_],q,q,q⟩
 intro c
 have h:=cH k c
 refine Rq 4 q ?_
 obtain⟨C,m,h⟩:=ae h
 refine WQ.qy (ah e51 q Zl q (af m) (an du m) q) q q q (Rq 1 q ?_)
 obtain⟨E,p,h⟩:=ae h
 refine WQ.qy (ah e27 q Zl q (af p) (an cA p) q) q q q (Rq 4 q ?_)
 obtain rfl:=Oi h
 exact WQ.nil ⟨[_,_,_,_,_,_,_,_,_,_,_],q,q,q⟩
 refine WQ.nil (Rxc 1 q (Ci h q (λh=>?_) λh=>?_))
 exact Rcx 11 q (FA h)
 exact Rcx 8 q (Fn1 h)
 exact Rcx 4 q (En0 h)
 exact Rcx 6 q (FA h)

theorem f12_c{t0:al}{r:Bool}(h:f12 t0=some r):Pu prog 12 [.ag (R33 t0)] (.b r):=by
 unfold f12 at h
 refine fI func12 λ_ _=>?_
 refine Rcl 2 q (Bd q q (Zs _) q (Rll 8 q (Zq (ab E48 t0.tasks e29 q q Zl) q (Rl 2 q ?_))))
 apply WL.or 5 (t:=10) (d:=15)
 exact q
 intro A
 exact Rl 2 q (Zy (ab E48 t0.tasks e29 q q Zl) q q q (Rl 2 q (WL.nil ⟨q,[_,_,_,_,_],q,q,q⟩)))
 exact Rn 5 5
 refine Rlc 2 q (Ci h q (λh=>Rcx 7 q (FA h)) λh=>?_)
 refine Rcc 2 q (Jn0 [] [] h (λm h=>?_) λh=>?_)
 refine Rcc 6 q (Ln1 (λc=> [(1, .d (.pc (R33 t0))),(3, .n c)]) (λ_=> []) (f12_l1 t0 m) h (λ_ h=>by rw[f12_l1] at h;cases h) λn c h=>?_)
 rw[f12_l1] at h
 refine Rcl 6 q (Zq (ab E48 t0.tasks e29 q q Zl) q (Rlc 3 q (Ci h q (λh=>?_) λh=>?_)))
 refine Rcc 2 q (Jn4 (λ_ _ _ _=> [(1, .d (.pc (R33 t0))),(3, .n c)]) (λc00v92 c01v93 c02v94 c03v95=> [.row 48 [.n c00v92, .n c01v93, .l E74 c02v94, .n c03v95]]) h (λp h=>?_) λc00v92 c01v93 c02v94 c03v95 h=>?_)
 refine Rcl 6 q (Ix h e29 dK q Zl q q λa _ h=>(Rl 1 q (Al z48 q (sS Z6 s48 Z2 (Rll 9 q ?_)))))
 refine OG 4 31 35 4 4 ?_
 refine Rl 1 q ?_
 apply WL.or 6 (t:=36) (d:=42)
 exact q
 intro B
 exact Rl 3 q (WL.fn q q q q (f33_c) Lw (aG q q q) q q (Rl 2 q (WL.nil ⟨q,[_,_,_,_,_,_],q,q,q⟩)))
 exact Rn 6 6
 refine Rl 1 q ?_
 refine OG 4 43 47 4 4 ?_
 refine Rl 1 q ?_
 refine OG 4 48 52 4 4 ?_
 refine Rl 1 q ?_
 apply WL.or 5 (t:=53) (d:=58)
 exact q
 intro C
 exact Rl 2 q (Zy (ab E74 a.entries e46 q q Zl) q q q (Rl 2 q (WL.nil ⟨q,[_,_,_,_,_],q,q,q⟩)))
 exact Rn 5 5
 refine Rlc 2 q (Ci h q (λh=>Rcx 12 q (FA h)) λh=>?_)
 refine Rcc 8 q (Ln1 (λf=> [(1, .d (.pc (R33 t0))),(3, .n c),(4, .pt 0 0),(5, .n f)]) (λ_=> [.row 48 [.n a.prio, .n a.at_, .l E74 a.entries, .n a.deadline]]) (f12_l2 t0 p a) h (λ_ h=>by rw[f12_l2] at h;cases h) λna f h=>?_)
 rw[f12_l2] at h
 refine Rcl 6 q (Zq (ab E74 a.entries e46 q q Zl) q (Rlc 3 q (Ci h q (λh=>?_) λh=>?_)))
 refine Rcc 5 q (av kR kR (Rq 4 q ?_))
 obtain⟨E,g,h⟩:=ae h
 refine WQ.qn (ah e46 q Zl q (af g) (an ib g) q) q (Rq 2 q ?_)
 obtain⟨F,w,h⟩:=ae h
 refine WQ.q (YieldsQ.fn q q q q q (f34_c w) Lw) (Zw q) q q (Rq 2 q ?_)
 obtain⟨x,j,h⟩:=ae h
 apply WQ.grp 10 (t:=75) (d:=85) (z:=x)
 exact q
 intro e
 have h:=cG j e
 refine Rq 10 q ?_
 obtain rfl:=Oi h
 exact WQ.nil ⟨[_,_,_,_,_,_,_,_,_,_],q,q,q⟩
 intro e
 have h:=cH j e
 refine Rq 4 q ?_
 obtain⟨G,k,h⟩:=ae h
 refine WQ.qy (ah e46 q Zl q (af k) (an ib k) q) q q q (Rq 2 q ?_)
 obtain⟨H,y,h⟩:=ae h
 refine WQ.q (YieldsQ.fn q q q q q (f34_c y) Lw) (aG q q q) q q (Rq 2 q ?_)
 obtain rfl:=Oi h
 exact WQ.nil ⟨[_,_,_,_,_,_,_,_,_,_],q,q,q⟩
 refine WQ.nil (Rxc 1 q (Ci h q (λh=>?_) λh=>?_))
 exact Rcx 15 q (FA h)
 exact Rcx 8 q (Fn1 h)
 exact Rcx 5 q (En4 h)
 exact Rcx 5 q (WE.drop 0 (env':=[(1, .d (.pc (R33 t0))),(3, .n (IntKind.i64.wrap (c+1)))]) Sb q q (Nat.zero_le _) (Fn1 h))
 exact Rcx 4 q (En0 h)
 exact Rcx 6 q (FA h)

theorem f35s_c(e:al→Int→bc→Int→Int→Option (Int))(t0:al)(a:Int)(e2:bc)(c:Int)(n4:Int)(y:∀(x0:al)(x1:Int)(x2:bc)(x3:Int)(x4:Int)(r:Int),e x0 x1 x2 x3 x4=some r→Pu prog 35 [.ag (R33 x0), .i .i64 x1, .ag (R92 x2), .i .i64 x3, .i .i64 x4] (.i .i64 r)){r:Int}(h:f35s e t0 a e2 c n4=some r):Pu prog 35 [.ag (R33 t0), .i .i64 a, .ag (R92 e2), .i .i64 c, .i .i64 n4] (.i .i64 r):=by
 unfold f35s at h
 refine fI func35 λ_ _=>?_
 refine Rcl 2 q (Bd q q (Zs _) q (Bd q q (Zs _) q (Rll 9 q ?_)))
 refine OG 3 18 21 3 3 ?_
 refine Rlc 2 q (Ci h q (λh=>Rcx 7 q (FA h)) λh=>?_)
 refine Rcl 6 q (Zq (ac p92 z92 q q) q (Al z92 q (sS Z6 s92 Z2 (Rlc 12 q (Jn6 (λf g _ _ _ _=> [(1, .n a),(3, .n c),(4, .n n4),(5, .d (.pc (R33 t0))),(7, .d (.pc (R92 e2))),(11, .pt 0 0),(12, .n f),(13, .d (D.b g))]) (λ_ _ c01v176 c02v177 c03v178 c04v179=> [.row 92 [.d (D.i .u8 e2.kind), .d (D.i .u8 c01v176), .n c02v177, .n c03v178, .n c04v179, .n 0, .n 0, .n 0,sN]]) h (λ_ h=>?_) λf g c01v176 c02v177 c03v178 c04v179 h=>?_)))))
 refine Rcc 13 q (Ci h q (λh=>Rcl 4 q (sS Z6 s2 Z2 (Rlx 2 q (En6 h)))) λh=>?_)
 refine Rcc 6 q (Ci h q (λh=>?_) λh=>?_)
 refine Rcl 5 q (sS Z6 s3 Z2 (Rll 7 q (sS Z6 s3 Z2 (Rll 8 q ?_))))
 obtain⟨G,A,h⟩:=ae h
 refine wF Z4 (f31_c A) Lw Z3 (Rl 1 q ?_)
 obtain⟨B,C,h⟩:=ae h
 refine Gg 9 46 55 B C (λh=>?_) (λh=>?_) ?_
 refine Rl 4 q ?_
 obtain⟨H,j,h⟩:=ae h
 exact Zy (ah e27 q Zl q (af j) (an cA j) q) q q q (On 4 9 h)
 exact On 9 9 h
 exact Rlx 3 q (En6 h)
 refine Rcc 6 q (Ci h q (λh=>?_) λh=>?_)
 refine Rcl 5 q (sS Z6 s2 Z2 (Rll 7 q ?_))
 refine AG 5 64 69 5 5 ?_
 exact Rlx 3 q (En6 h)
 refine Rcc 6 q (Ci h q (λh=>Rcl 3 q (sS Z6 s90 Z2 (Rlx 6 q (En6 h)))) λh=>?_)
 refine Rcc 6 q (Ci h q (λh=>?_) λh=>?_)
 refine Rcl 5 q (sS Z6 s90 Z2 (Rll 12 q ?_))
 refine AG 4 81 85 4 4 ?_
 exact Rlx 3 q (En6 h)
 refine Jn1 (λk=> [(1, .n a),(3, .n c),(4, .n n4),(5, .d (.pc (R33 t0))),(7, .d (.pc (R92 e2))),(11, .pt 0 0),(13, .d (D.b true)),(86, .d (D.b k))]) (λ_=> [.row 92 [.d (D.i .u8 e2.kind), .d (D.i .u8 0), .n 0, .n 0, .n 0, .n 0, .n 0, .n 0,sN]]) h (λ_ h=>?_) (λk h=>?_)
 exact Rcc 6 q (Ci h q (λh=>Rcx 1 q (En1 h)) λh=>Rcx 4 q (En1 h))
 refine Ci h q (λh=>?_) (λh=>?_)
 exact Rcx 4 q (En6 h)
 exact Rcx 8 q (FA h)
 refine Rcl 8 q ?_
 refine AG 6 94 100 6 6 ?_
 refine Rl 1 q ?_
 refine AG 6 101 107 6 6 ?_
 refine Rl 1 q ?_
 refine AG 6 108 114 6 6 ?_
 refine Rl 1 q ?_
 refine AG 4 115 119 4 4 ?_
 refine Rl 1 q ?_
 refine AG 4 120 124 4 4 ?_
 refine Rl 1 q ?_
 refine AG 4 125 129 4 4 ?_
 refine Rll 9 q ?_
 refine OG 3 132 135 3 3 ?_
 refine Rl 1 q ?_
 apply WL.or 6 (t:=136) (d:=142)
 exact q
 intro I
 exact Rl 2 q (Zy (ab E92 e2.l e85 q q Zl) q q q (Rl 3 q (WL.nil ⟨q,[_,_,_,_,_,_],q,q,q⟩)))
 exact Rn 6 6
 refine Rlc 2 q (Ci h q (λh=>Rcx 7 q (FA h)) λh=>?_)
 refine Rcc 9 q (Jn1 (λm=> [(4, .n m)]) (λ_=> [.row 92 [.d (D.i .u8 e2.kind), .d (D.i .u8 c01v176), .n c02v177, .n c03v178, .n c04v179, .n 0, .n 0, .n 0,sN]]) h (λE h=>?_) λm h=>?_)
 refine Rcc 6 q (Ln2 (λp w=> [(1, .n a),(3, .n c),(4, .n p),(5, .d (.pc (R33 t0))),(7, .d (.pc (R92 e2))),(15, .n w)]) (λ_ _=> [.row 92 [.d (D.i .u8 e2.kind), .d (D.i .u8 c01v176), .n c02v177, .n c03v178, .n c04v179, .n 0, .n 0, .n 0,sN]]) (f35s_l1 e t0 a e2 c E) h (λ_ _ h=>by rw[f35s_l1] at h;cases h) λn p w h=>?_)
 rw[f35s_l1] at h
 refine Rcl 6 q (Zq (ab E92 e2.l e85 q q Zl) q (Rl 2 q ?_))
 refine AG 3 150 153 3 3 ?_
 refine Rlc 2 q (Ci h q (λh=>?_) λh=>?_)
 refine Rcc 4 q (av kR kR (Rq 5 q ?_))
 obtain⟨K,x,h⟩:=ae h
 refine WQ.qn (ah e85 q Zl q (af x) (an jX x) q) q (Rq 4 q ?_)
 obtain⟨L,F,h⟩:=ae h
 exact WQ.q (YieldsQ.fn q q q q q (y _ _ _ _ _ _ F) Lw) (Zw q) q q (Rq 1 q (WQ.nil (Rxx 7 q (Fn2 h))))
 exact Rcx 4 q (En1 h)
 exact Rcx 7 q (FA h)

theorem f35_c:∀(n:Nat)(x0:al)(x1:Int)(x2:bc)(x3:Int)(x4:Int){r:Int},f35 n x0 x1 x2 x3 x4=some r→Pu prog 35 [.ag (R33 x0), .i .i64 x1, .ag (R92 x2), .i .i64 x3, .i .i64 x4] (.i .i64 r)
 |0,_,_,_,_,_,_,h=>by cases h
 |n+1,x0,x1,x2,x3,x4,_,h=>f35s_c (f35 n) x0 x1 x2 x3 x4 (λx0 x1 x2 x3 x4 _ h=>f35_c n x0 x1 x2 x3 x4 h) h

theorem f36_c{t0:al}{a1:Int}{r:Bool}(h:f36 t0 a1=some r):Pu prog 36 [.ag (R33 t0), .i .i64 a1] (.b r):=by
 unfold f36 at h
 refine fI func36 λ_ _=>?_
 refine Rcl 2 q (Bd q q (Zs _) q (Rll 7 q (wF Z4 (f33_c) Lw Z3 (Rl 1 q ?_))))
 obtain⟨e,f,h⟩:=ae h
 refine Gg 17 8 25 e f (λh=>?_) (λh=>?_) ?_
 refine Rl 3 q ?_
 obtain⟨k,a,h⟩:=ae h
 refine Zy (ah e22 q Zl q (af a) (an c9 a) q) q q q (Rl 4 q ?_)
 obtain⟨g,j,h⟩:=ae h
 refine Gg 8 16 24 g j (λh=>?_) (λh=>?_) ?_
 exact On 8 8 h
 refine Rl 3 q ?_
 obtain⟨m,c,h⟩:=ae h
 exact Zy (ah e22 q Zl q (af c) (an c9 c) q) q q q (On 4 8 h)
 exact On 1 10 h
 exact On 17 17 h
 exact Rlx 4 q (FA h)

theorem f13_c{t0:al}{r:Bool}(h:f13 t0=some r):Pu prog 13 [.ag (R33 t0)] (.b r):=by
 unfold f13 at h
 refine fI func13 λ_ _=>?_
 refine Rcl 2 q (Bd q q (Zs _) q (Rll 8 q (Zq (ab E87 t0.prots e30 q q Zl) q (Rlc 3 q (Ci h q (λh=>?_) λh=>?_)))))
 exact Rcx 7 q (FA h)
 refine Rcc 2 q (Jn0 [(1, .d (.pc (R33 t0)))] [] h (λx h=>?_) λh=>?_)
 refine Rcc 6 q (Ln1 (λc=> [(1, .d (.pc (R33 t0))),(3, .n c)]) (λ_=> []) (f13_l1 t0 x) h (λ_ h=>by rw[f13_l1] at h;cases h) λn c h=>?_)
 rw[f13_l1] at h
 refine Rcl 6 q (Zq (ab E87 t0.prots e30 q q Zl) q (Rlc 3 q (Ci h q (λh=>?_) λh=>?_)))
 refine Rcc 2 q (Jn2 (λ_ _=> [(1, .d (.pc (R33 t0))),(3, .n c)]) (λc00v105 c01v106=> [.row 87 [.n c00v105, .l E92 c01v106]]) h (λy h=>?_) λc00v105 c01v106 h=>?_)
 refine Rcl 6 q (Ix h e30 nG q Zl q q λa _ h=>(Rl 1 q (Al z87 q (sS Z6 s87 Z2 (Rll 9 q ?_)))))
 refine OG 4 27 31 4 4 ?_
 refine Rl 1 q ?_
 apply WL.or 5 (t:=32) (d:=37)
 exact q
 intro G
 exact Rl 2 q (Zy (ab E92 a.barriers e85 q q Zl) q q q (Rl 2 q (WL.nil ⟨q,[_,_,_,_,_],q,q,q⟩)))
 exact Rn 5 5
 refine Rlc 2 q (Ci h q (λh=>Rcx 12 q (FA h)) λh=>?_)
 refine Rcc 8 q (Ln1 (λj=> [(1, .d (.pc (R33 t0))),(3, .n c),(4, .pt 0 0),(5, .n j)]) (λ_=> [.row 87 [.n a.ceiling, .l E92 a.barriers]]) (f13_l2 t0 y a) h (λ_ h=>by rw[f13_l2] at h;cases h) λna j h=>?_)
 rw[f13_l2] at h
 refine Rcl 6 q (Zq (ab E92 a.barriers e85 q q Zl) q (Rlc 3 q (Ci h q (λh=>?_) λh=>?_)))
 refine Rcc 5 q (av kR kR (Rq 3 q (WQ.qn (ab E92 a.barriers e85 q q Zl) q (Rq 3 q ?_))))
 obtain⟨H,k,h⟩:=ae h
 refine WQ.qn (ah e85 q Zl q (af k) (an jX k) q) q (Rq 1 q ?_)
 obtain⟨I,A,h⟩:=ae h
 refine WQ.q (YieldsQ.fn q q q q q (f35_c 67 _ _ _ _ _ A) Lw) (Zw q) q q (Rq 1 q (WQ.nil (Rxc 1 q (Ci h q (λh=>?_) λh=>?_))))
 exact Rcx 15 q (FA h)
 exact Rcx 8 q (Fn1 h)
 exact Rcx 5 q (En2 h)
 exact Rcx 5 q (WE.drop 0 (env':=[(1, .d (.pc (R33 t0))),(3, .n (IntKind.i64.wrap (c+1)))]) Sb q q (Nat.zero_le _) (Fn1 h))
 exact Rcx 4 q (En0 h)
 refine Jn0 [] [] h (λB h=>?_) (λh=>?_)
 refine Rcc 6 q (Ln1 (λe=> [(1, .d (.pc (R33 t0))),(6, .n e)]) (λ_=> []) (f13_l3 t0 B) h (λ_ h=>by rw[f13_l3] at h;cases h) λn e h=>?_)
 rw[f13_l3] at h
 refine Rcl 6 q (Zq (ab E95 t0.checks e31 q q Zl) q (Rlc 3 q (Ci h q (λh=>?_) λh=>?_)))
 refine Rcl 9 q (Ix h e31 qu q Zl q q λK _ h=>(Rl 1 q (Al z95 q (sS Z6 s95 Z2 (Rlc 3 q (av kR kR (Rq 3 q ?_)))))))
 obtain⟨L,C,h⟩:=ae h
 refine WQ.q (YieldsQ.fn q q q q q (f36_c C) Lw) (Zw q) q q (Rq 2 q ?_)
 obtain⟨E,m,h⟩:=ae h
 apply WQ.grp 15 (t:=73) (d:=88) (z:=E)
 exact q
 intro f
 have h:=cG m f
 refine Rq 15 q ?_
 obtain rfl:=Oi h
 exact WQ.nil ⟨[_,_,_,_,_,_,_,_,_,_,_,_,_,_,_],q,q,q⟩
 intro f
 have h:=cH m f
 refine Rq 3 q ?_
 obtain⟨F,p,h⟩:=ae h
 apply WQ.grp 11 (t:=76) (d:=87) (z:=F)
 exact q
 intro g
 have h:=cG p g
 refine Rq 4 q ?_
 obtain⟨M,w,h⟩:=ae h
 refine WQ.qy (ah e31 q Zl q (af w) (an qu w) q) q q q (Rq 6 q ?_)
 obtain rfl:=Oi h
 exact WQ.nil ⟨[_,_,_,_,_,_,_,_,_,_,_],q,q,q⟩
 intro g
 have h:=cH p g
 refine Rq 11 q ?_
 obtain rfl:=Oi h
 exact WQ.nil ⟨[_,_,_,_,_,_,_,_,_,_,_],q,q,q⟩
 refine Rq 1 q ?_
 obtain rfl:=Oi h
 exact WQ.nil ⟨[_,_,_,_,_],q,q,q⟩
 refine Rq 1 q ?_
 apply WQ.or 4 (t:=89) (d:=93)
 exact q
 intro N
 exact Rq 4 q (WQ.nil ⟨[_,_,_,_],q,q,q⟩)
 exact Rq 4 q (WQ.nil ⟨[_,_,_,_],q,q,q⟩)
 refine Rq 1 q ?_
 apply WQ.or 4 (t:=94) (d:=98)
 exact q
 intro O
 exact Rq 4 q (WQ.nil ⟨[_,_,_,_],q,q,q⟩)
 exact Rq 4 q (WQ.nil ⟨[_,_,_,_],q,q,q⟩)
 refine WQ.nil (Rxc 1 q (Ci h q (λh=>?_) λh=>?_))
 exact Rcx 11 q (FA h)
 exact Rcx 8 q (WE.drop 0 (env':=[(1, .d (.pc (R33 t0))),(6, .n (IntKind.i64.wrap (e+1)))]) Sb q q (Nat.zero_le _) (Fn1 h))
 exact Rcx 4 q (En0 h)
 exact Rcx 6 q (FA h)

theorem f37_c{t0:al}{a:Int}{a2:jb}{r:Bool}(h:f37 t0 a a2=some r):Pu prog 37 [.ag (R33 t0), .i .i64 a, .ag (qs a2)] (.b r):=by
 unfold f37 at h
 refine fI func37 λ_ _=>?_
 refine Rcl 2 q (Bd q q (Zs _) q (Bd q q (Zs _) q (Rll 9 q (wF Z4 (f33_c) Lw Z3 (Rl 2 q ?_)))))
 obtain⟨e,f,h⟩:=ae h
 refine Gg 12 12 24 e f (λh=>?_) (λh=>?_) ?_
 exact On 12 12 h
 refine Rl 4 q ?_
 obtain⟨g,j,h⟩:=ae h
 refine Gg 7 16 23 g j (λh=>?_) (λh=>?_) ?_
 refine Rl 4 q ?_
 obtain⟨w,k,h⟩:=ae h
 exact WL.fn q q q q (f31_c k) Lw (aG q q q) q q (On 2 7 h)
 exact On 7 7 h
 exact On 1 6 h
 refine Rlc 2 q (Ci h q (λh=>Rcx 7 q (FA h)) λh=>?_)
 refine Rcc 16 q (Ci h q (λh=>?_) λh=>?_)
 refine Rcl 6 q ?_
 refine AG 4 32 36 4 4 ?_
 refine Rl 1 q ?_
 refine AG 4 37 41 4 4 ?_
 exact Rlx 6 q (FA h)
 refine Jn1 (λc=> [(1, .n a),(3, .d (.pc (R33 t0))),(5, .d (.pc (qs a2))),(42, .d (D.b c))]) (λ_=> []) h (λ_ h=>?_) (λc h=>?_)
 exact Rcc 6 q (Ci h q (λh=>Rcx 1 q (En1 h)) λh=>Rcx 4 q (En1 h))
 refine Ci h q (λh=>?_) (λh=>?_)
 refine Rcl 6 q ?_
 obtain⟨m,p,h⟩:=ae h
 refine Gg 6 48 54 m p (λh=>?_) (λh=>?_) ?_
 refine Rl 4 q ?_
 obtain⟨x,t,h⟩:=ae h
 exact WL.fn q q q q (f31_c t) Lw (aG q q q) q q (On 1 6 h)
 exact On 6 6 h
 exact Rlx 6 q (FA h)
 refine Rcl 9 q ?_
 refine AG 4 58 62 4 4 ?_
 refine Rl 1 q ?_
 refine AG 4 63 67 4 4 ?_
 exact Rlx 4 q (FA h)

theorem f14_c{t0:al}{r:Bool}(h:f14 t0=some r):Pu prog 14 [.ag (R33 t0)] (.b r):=by
 unfold f14 at h
 refine fI func14 λ_ _=>?_
 refine Rcl 2 q (Bd q q (Zs _) q (Rll 8 q (Zq (ab E98 t0.selects e25 q q Zl) q (Rl 2 q ?_))))
 apply WL.or 5 (t:=14) (d:=19)
 exact q
 intro O
 exact Rl 2 q (Zy (ab E51 t0.lists e26 q q Zl) q q q (Rl 2 q (WL.nil ⟨q,[_,_,_,_,_],q,q,q⟩)))
 exact Rn 5 5
 refine Rlc 2 q (Ci h q (λh=>Rcx 7 q (FA h)) λh=>?_)
 refine Rcc 2 q (Jn0 [(1, .d (.pc (R33 t0)))] [] h (λC h=>?_) λh=>?_)
 refine Rcc 6 q (Ln1 (λf=> [(1, .d (.pc (R33 t0))),(3, .n f)]) (λ_=> []) (f14_l1 t0 C) h (λ_ h=>by rw[f14_l1] at h;cases h) λn f h=>?_)
 rw[f14_l1] at h
 refine Rcl 6 q (Zq (ab E98 t0.selects e25 q q Zl) q (Rlc 3 q (Ci h q (λh=>?_) λh=>?_)))
 refine Rcc 2 q (Jn3 (λ_ _ _=> [(1, .d (.pc (R33 t0))),(3, .n f)]) (λc00v134 c01v135 c02v136=> [.row 98 [.l eo c00v134, .n c01v135, .n c02v136]]) h (λE h=>?_) λc00v134 c01v135 c02v136 h=>?_)
 refine Rcl 6 q (Ix h e25 nF q Zl q q λa _ h=>(Rl 1 q (Al z98 q (sS Z6 s98 Z2 (Rll 7 q (Zq (ab eo a.alts e96 q q Zl) q (Rl 2 q ?_)))))))
 apply WL.or 5 (t:=36) (d:=41)
 exact q
 intro P
 exact Rl 2 q (Zy (ab eo a.alts e96 q q Zl) q q q (Rl 2 q (WL.nil ⟨q,[_,_,_,_,_],q,q,q⟩)))
 exact Rn 5 5
 refine Rl 1 q ?_
 obtain⟨F,G,h⟩:=ae h
 refine Gg 6 42 48 F G (λh=>?_) (λh=>?_) ?_
 exact On 6 6 h
 refine Rl 3 q ?_
 obtain⟨Q,H,h⟩:=ae h
 exact WL.fn q q q q (f31_c H) Lw (aG q q q) q q (On 2 6 h)
 refine Rl 1 q ?_
 apply WL.or 11 (t:=49) (d:=60)
 exact q
 intro R
 refine Rl 4 q ?_
 apply WL.and 6 (t:=53) (d:=59)
 exact q
 intro S
 exact Rl 3 q (WL.fn q q q q (f33_c) Lw (aG q q q) q q (Rl 2 q (WL.nil ⟨q,[_,_,_,_,_,_],q,q,q⟩)))
 exact Rn 6 6
 exact Rn 1 6
 exact Rn 11 11
 refine Rlc 2 q (Ci h q (λh=>Rcx 12 q (FA h)) λh=>?_)
 refine Rcc 8 q (Ln1 (λk=> [(1, .d (.pc (R33 t0))),(3, .n f),(4, .pt 0 0),(5, .n k)]) (λ_=> [.row 98 [.l eo a.alts, .n a.obj, .n a.else_]]) (f14_l2 t0 E a) h (λ_ h=>by rw[f14_l2] at h;cases h) λna k h=>?_)
 rw[f14_l2] at h
 refine Rcl 6 q (Zq (ab eo a.alts e96 q q Zl) q (Rlc 3 q (Ci h q (λh=>?_) λh=>?_)))
 refine Rcc 5 q (av kR kR (Rq 6 q ?_))
 obtain⟨T,m,h⟩:=ae h
 refine WQ.qn (ah e96 q Zl q (af m) (an nJ m) q) q (Rq 1 q ?_)
 obtain⟨U,I,h⟩:=ae h
 refine WQ.q (YieldsQ.fn q q q q q (f37_c I) Lw) (Zw q) q q (Rq 1 q (WQ.nil (Rxc 1 q (Ci h q (λh=>?_) λh=>?_))))
 exact Rcx 15 q (FA h)
 exact Rcx 8 q (Fn1 h)
 exact Rcx 5 q (En3 h)
 exact Rcx 5 q (WE.drop 0 (env':=[(1, .d (.pc (R33 t0))),(3, .n (IntKind.i64.wrap (f+1)))]) Sb q q (Nat.zero_le _) (Fn1 h))
 exact Rcx 4 q (En0 h)
 refine Jn0 [] [] h (λK h=>?_) (λh=>?_)
 refine Rcc 6 q (Ln1 (λe=> [(1, .d (.pc (R33 t0))),(6, .n e)]) (λ_=> []) (f14_l3 t0 K) h (λ_ h=>by rw[f14_l3] at h;cases h) λn e h=>?_)
 rw[f14_l3] at h
 refine Rcl 6 q (Zq (ab E51 t0.lists e26 q q Zl) q (Rlc 3 q (Ci h q (λh=>?_) λh=>?_)))
 refine Rcc 2 q (Jn0 [(1, .d (.pc (R33 t0))),(6, .n e)] [] h (λL h=>?_) λh=>?_)
 refine Rcl 6 q (Ix h e26 t8 q Zl q q λc _ h=>(Rll 8 q (Zq (ab E3 c e51 q q Zl) q (Rlc 3 q (Ci h q (λh=>?_) λh=>?_)))))
 exact Rcx 12 q (FA h)
 refine Rcc 8 q (Ln1 (λg=> [(1, .d (.pc (R33 t0))),(6, .n e),(7, .l E3 c),(8, .n g)]) (λ_=> []) (f14_l4 t0 L c) h (λ_ h=>by rw[f14_l4] at h;cases h) λna g h=>?_)
 rw[f14_l4] at h
 refine Rcl 5 q (Zq (ab E3 c e51 q q Zl) q (Rlc 3 q (Ci h q (λh=>?_) λh=>?_)))
 refine Rcc 2 q (Jn0 [(1, .d (.pc (R33 t0))),(6, .n e),(7, .l E3 c),(8, .n g)] [] h (λM h=>?_) λh=>?_)
 refine Rcc 3 q (av kR kR (Rq 2 q ?_))
 obtain⟨V,p,h⟩:=ae h
 refine WQ.qn (ah e51 q Zl q (af p) (an du p) q) q (Rq 3 q ?_)
 obtain⟨N,w,h⟩:=ae h
 apply WQ.grp 9 (t:=104) (d:=113) (z:=N)
 exact q
 intro j
 have h:=cG w j
 refine Rq 9 q ?_
 obtain rfl:=Oi h
 exact WQ.nil ⟨[_,_,_,_,_,_,_,_,_],q,q,q⟩
 intro j
 have h:=cH w j
 refine Rq 2 q ?_
 obtain⟨X,x,h⟩:=ae h
 refine WQ.qy (ah e51 q Zl q (af x) (an du x) q) q q q (Rq 3 q (WQ.qy (ab E48 t0.tasks e29 q q Zl) q q q (Rq 2 q ?_)))
 obtain rfl:=Oi h
 exact WQ.nil ⟨[_,_,_,_,_,_,_,_,_],q,q,q⟩
 refine WQ.nil (Rxc 1 q (Ci h q (λh=>?_) λh=>?_))
 exact Rcx 16 q (FA h)
 refine Rcc 8 q (Ln1 (λy=> [(1, .d (.pc (R33 t0))),(6, .n e),(7, .l E3 c),(8, .n g),(9, .n y)]) (λ_=> []) (f14_l5 c g M) h (λ_ h=>by rw[f14_l5] at h;cases h) λnb y h=>?_)
 rw[f14_l5] at h
 refine Rcc 8 q (Ci h q (λh=>?_) λh=>?_)
 refine Rcc 5 q (av kR kR (Rq 2 q ?_))
 obtain⟨Y,A,h⟩:=ae h
 refine WQ.qn (ah e51 q Zl q (af A) (an du A) q) q (Rq 3 q ?_)
 obtain⟨Z,B,h⟩:=ae h
 refine WQ.qn (ah e51 q Zl q (af B) (an du B) q) q (Rq 2 q (WQ.nil (Rxc 1 q (Ci h q (λh=>?_) λh=>?_))))
 exact Rcx 19 q (FA h)
 exact Rcx 8 q (Fn1 h)
 exact Rcx 5 q (En0 h)
 exact Rcx 5 q (Fn1 h)
 exact Rcx 5 q (En0 h)
 exact Rcx 5 q (Fn1 h)
 exact Rcx 4 q (En0 h)
 exact Rcx 6 q (FA h)

theorem f15_c{t0:al}{r:Bool}(h:f15 t0=some r):Pu prog 15 [.ag (R33 t0)] (.b r):=by
 unfold f15 at h
 refine fI func15 λ_ _=>?_
 refine Rcl 2 q (Bd q q (Zs _) q (Rll 8 q (Zq (ab cq t0.handlers e23 q q Zl) q (Rlc 3 q (Ci h q (λh=>?_) λh=>?_)))))
 exact Rcx 7 q (FA h)
 refine Rcc 2 q (Jn0 [] [] h (λf h=>?_) λh=>?_)
 refine Rcc 6 q (Ln1 (λa=> [(1, .d (.pc (R33 t0))),(3, .n a)]) (λ_=> []) (f15_l1 t0 f) h (λ_ h=>by rw[f15_l1] at h;cases h) λn a h=>?_)
 rw[f15_l1] at h
 refine Rcl 6 q (Zq (ab cq t0.handlers e23 q q Zl) q (Rlc 3 q (Ci h q (λh=>?_) λh=>?_)))
 refine Rcc 2 q (Jn4 (λ_ _ _ _=> [(1, .d (.pc (R33 t0))),(3, .n a)]) (λc00v110 c01v111 c02v112 c03v113=> [.row 104 [.n c00v110, .n c01v111, .n c02v112, .d (D.b c03v113)]]) h (λg h=>?_) λc00v110 c01v111 c02v112 c03v113 h=>?_)
 refine Rcl 6 q (Ix h e23 ir q Zl q q λc _ h=>(Rl 1 q (Al ub q (sS Z6 ul Z2 (Rll 9 q ?_)))))
 refine OG 6 28 34 6 6 ?_
 refine Rl 1 q ?_
 apply WL.or 7 (t:=35) (d:=42)
 exact q
 intro j
 exact Rl 4 q (Zy (ab E59 t0.insns e22 q q Zl) q q q (Rl 2 q (WL.nil ⟨q,[_,_,_,_,_,_,_],q,q,q⟩)))
 exact Rn 7 7
 refine Rl 1 q ?_
 apply WL.or 6 (t:=43) (d:=49)
 exact q
 intro k
 exact Rl 3 q (WL.fn q q q q (f33_c) Lw (aG q q q) q q (Rl 2 q (WL.nil ⟨q,[_,_,_,_,_,_],q,q,q⟩)))
 exact Rn 6 6
 refine Rl 1 q ?_
 apply WL.or 13 (t:=50) (d:=63)
 exact q
 intro m
 refine Rl 6 q ?_
 refine AG 6 56 62 6 6 ?_
 exact Rn 1 8
 exact Rn 13 13
 refine Rlc 2 q (Ci h q (λh=>Rcx 12 q (FA h)) λh=>?_)
 refine Rcc 8 q (Ln1 (λe=> [(1, .d (.pc (R33 t0))),(3, .n a),(4, .pt 0 0),(5, .n e)]) (λ_=> [.row 104 [.n c.from_, .n c.to, .n c.at_, .d (D.b c.clean)]]) (f15_l2 t0 a g c) h (λ_ h=>by rw[f15_l2] at h;cases h) λna e h=>?_)
 rw[f15_l2] at h
 refine Rcc 8 q (Ci h q (λh=>?_) λh=>?_)
 refine Rcl 9 q (Ix h e23 ir q Zl q q λp _ h=>(Rl 1 q (Al ub q (sS Z6 ul Z2 (Rll 10 q ?_)))))
 refine AG 6 79 85 6 6 ?_
 refine Rll 11 q ?_
 refine OG 6 91 97 6 6 ?_
 refine Rll 8 q ?_
 refine AG 3 100 103 3 3 ?_
 refine Rlc 2 q (Ci h q (λh=>Rcx 15 q (FA h)) λh=>?_)
 exact Rcx 8 q (WE.drop 1 (env':=[(1, .d (.pc (R33 t0))),(3, .n a),(4, .pt 0 0),(5, .n (IntKind.i64.wrap (e+1)))]) Sb q q (Nat.zero_le _) (Fn1 h))
 exact Rcx 5 q (En4 h)
 exact Rcx 5 q (WE.drop 0 (env':=[(1, .d (.pc (R33 t0))),(3, .n (IntKind.i64.wrap (a+1)))]) Sb q q (Nat.zero_le _) (Fn1 h))
 exact Rcx 4 q (En0 h)
 exact Rcx 6 q (FA h)

theorem f16_c{t0:al}{r:Bool}(h:f16 t0=some r):Pu prog 16 [.ag (R33 t0)] (.b r):=by
 unfold f16 at h
 refine fI func16 λ_ _=>?_
 refine Rcl 2 q (Bd q q (Zs _) q (Rll 8 q (Zq (ab cM t0.loops e24 q q Zl) q (Rlc 3 q (Ci h q (λh=>?_) λh=>?_)))))
 exact Rcx 7 q (FA h)
 refine Rcc 2 q (Jn0 [] [] h (λk h=>?_) λh=>?_)
 refine Rcc 6 q (Ln1 (λe=> [(1, .d (.pc (R33 t0))),(3, .n e)]) (λ_=> []) (f16_l1 t0 k) h (λ_ h=>by rw[f16_l1] at h;cases h) λn e h=>?_)
 rw[f16_l1] at h
 refine Rcl 6 q (Zq (ab cM t0.loops e24 q q Zl) q (Rlc 3 q (Ci h q (λh=>?_) λh=>?_)))
 refine Rcc 2 q (Jn10 (λ_ _ _ _ _ _ _ _ _ _=> [(1, .d (.pc (R33 t0))),(3, .n e)]) (λc00v98 c01v99 c02v100 c10v101 c11v102 c12v103 c13v104 c14v105 c15v106 c16v107=> [.row 106 [.n c00v98, .n c01v99, .n c02v100], .row 59 [.d (D.i .u8 c10v101), .n c11v102, .n c12v103, .n c13v104, .n c14v105, .n c15v106, .n c16v107]]) h (λp h=>?_) λc00v98 c01v99 c02v100 c10v101 c11v102 c12v103 c13v104 c14v105 c15v106 c16v107 h=>?_)
 refine Rcl 6 q (Ix h e24 nI q Zl q q λf _ h=>(Rl 1 q (Al z106 q (sS Z6 s106 Z2 (Rll 8 q (wF Z4 (f33_c) Lw Z3 (Rl 2 q ?_)))))))
 apply WL.or 6 (t:=28) (d:=34)
 exact q
 intro w
 exact Rl 3 q (WL.fn q q q q (f33_c) Lw (aG q q q) q q (Rl 2 q (WL.nil ⟨q,[_,_,_,_,_,_],q,q,q⟩)))
 exact Rn 6 6
 refine Rl 1 q ?_
 refine OG 6 35 41 6 6 ?_
 refine Rl 1 q ?_
 refine OG 4 42 46 4 4 ?_
 refine Rl 1 q ?_
 refine OG 4 47 51 4 4 ?_
 refine Rlc 2 q (Ci h q (λh=>Rcx 12 q (FA h)) λh=>?_)
 refine Rcl 8 q (Ix h e22 c9 q Zl q q λc _ h=>(Rl 1 q (Al z59 q (sS Z6 s59 Z2 (Rll 9 q ?_)))))
 refine AG 4 61 65 4 4 ?_
 refine Rl 1 q ?_
 refine AG 4 66 70 4 4 ?_
 refine Rl 1 q ?_
 refine OG 6 71 77 6 6 ?_
 refine Rlc 2 q (Ci h q (λh=>Rcx 12 q (FA h)) λh=>?_)
 refine Rcc 8 q (Ln1 (λg=> [(1, .d (.pc (R33 t0))),(3, .n e),(4, .pt 0 0),(6, .n g)]) (λ_=> [.row 106 [.n f.head, .n f.back, .n f.bound], .row 59 [.d (D.i .u8 c.op), .n c.d, .n c.a, .n c.b, .n c.n, .n c.m, .n c.to]]) (f16_l2 t0 e n p f c) h (λ_ h=>by rw[f16_l2] at h;cases h) λna g h=>?_)
 rw[f16_l2] at h
 refine Rcc 8 q (Ci h q (λh=>?_) λh=>?_)
 refine Rcc 5 q (av kR kR (Rq 3 q ?_))
 obtain⟨x,j,h⟩:=ae h
 refine WQ.qn (ah e24 q Zl q (af j) (an nI j) q) q (Rq 5 q (WQ.nil (Rxc 1 q (Ci h q (λh=>?_) λh=>?_))))
 exact Rcx 15 q (FA h)
 exact Rcx 8 q (Fn1 h)
 exact Rcx 5 q (de ⟨_,_,_,_,_,_,_,_,_,_,h,Sb,Tv⟩)
 exact Rcx 5 q (WE.drop 0 (env':=[(1, .d (.pc (R33 t0))),(3, .n (IntKind.i64.wrap (e+1)))]) Sb q q (Nat.zero_le _) (Fn1 h))
 exact Rcx 4 q (En0 h)
 exact Rcx 6 q (FA h)

theorem f102_c:Pu prog 102 [] (.sl (List.map u9 (f102 ))):=by
 generalize h:f102=r
 unfold f102 at h
 refine fI func102 λ_ _=>?_
 refine Rcl 7 q (Zq (ac aM az q q) q (Zq (ac aM az q q) q (WL.s ((NewOs.b (ad cr az q dC dC q q q dC)).does) (Zw q) q q ?_)))
 refine WL.freezeX [3] [] 0 _ q (ai aI [fD 68 0 15,fD 78 (-9223372036854775808) 9223372036854775807]) ⟨q,Zt⟩ Zt (Zq (ac ce bW q q) q (Zq (ac aM az q q) q (Zq (ac aM az q q) q (WL.s ((NewOs.b (ad cr az q dC dC q q q dC)).does) (Zw q) q q ?_))))
 refine WL.freezeX [7] [] 1 _ q (ai aI [fD 68 0 15,fD 65 0 15]) ⟨q,Zt⟩ Zt (Zq (ac ce bW q q) q (Zq (ac aM az q q) q (Zq (ac aM az q q) q (Zq (ac aM az q q) q (WL.s ((NewOs.b (ad cr az q dC dC q q q dC)).does) (Zw q) q q ?_)))))
 refine WL.freezeX [12] [] 2 _ q (ai aI [fD 68 0 15,fD 78 0 4095,fD 77 0 65535]) ⟨q,Zt⟩ Zt (Zq (ac ce bW q q) q (Zq (ac aM az q q) q (Zq (ac aM az q q) q (Zq (ac aM az q q) q (WL.s ((NewOs.b (ad cr az q dC dC q q q dC)).does) (Zw q) q q ?_)))))
 refine WL.freezeX [17] [] 3 _ q (ai aI [fD 65 0 15,fD 78 0 4095,fD 77 0 65535]) ⟨q,Zt⟩ Zt (Zq (ac ce bW q q) q (Zq (ac aM az q q) q (Zq (ac aM az q q) q (Zq (ac aM az q q) q (Zq (ac aM az q q) q (Zq (ac aM az q q) q (WL.s ((NewOs.b (ad cr az q dC dC q q q dC)).does) (Zw q) q q ?_)))))))
 refine WL.freezeX [24] [] 4 _ q (ai aI [fD 68 0 15,fD 65 0 15,fD 66 1 65536,fD 78 0 4095,fD 77 0 65535]) ⟨q,Zt⟩ Zt (Zq (ac ce bW q q) q (Zq (ac aM az q q) q (Zq (ac aM az q q) q (Zq (ac aM az q q) q (Zq (ac aM az q q) q (Zq (ac aM az q q) q (WL.s ((NewOs.b (ad cr az q dC dC q q q dC)).does) (Zw q) q q ?_)))))))
 refine WL.freezeX [31] [] 5 _ q (ai aI [fD 68 0 15,fD 65 0 15,fD 66 1 65536,fD 78 0 4095,fD 77 0 65535]) ⟨q,Zt⟩ Zt (Zq (ac ce bW q q) q (Zq (ac aM az q q) q (Zq (ac aM az q q) q (WL.s ((NewOs.b (ad cr az q dC dC q q q dC)).does) (Zw q) q q ?_))))
 refine WL.freezeX [35] [] 6 _ q (ai aI [fD 68 0 15,fD 65 0 15]) ⟨q,Zt⟩ Zt (Zq (ac ce bW q q) q (Zq (ac aM az q q) q (Zq (ac aM az q q) q (WL.s ((NewOs.b (ad cr az q dC dC q q q dC)).does) (Zw q) q q ?_))))
 refine WL.freezeX [39] [] 7 _ q (ai aI [fD 68 0 15,fD 65 0 15]) ⟨q,Zt⟩ Zt (Zq (ac ce bW q q) q (Zq (ac aM az q q) q (Zq (ac aM az q q) q (Zq (ac aM az q q) q (WL.s ((NewOs.b (ad cr az q dC dC q q q dC)).does) (Zw q) q q ?_)))))
 refine WL.freezeX [44] [] 8 _ q (ai aI [fD 68 0 15,fD 65 0 15,fD 66 0 15]) ⟨q,Zt⟩ Zt (Zq (ac ce bW q q) q (Zq (ac aM az q q) q (Zq (ac aM az q q) q (Zq (ac aM az q q) q (WL.s ((NewOs.b (ad cr az q dC dC q q q dC)).does) (Zw q) q q ?_)))))
 refine WL.freezeX [49] [] 9 _ q (ai aI [fD 68 0 15,fD 65 0 15,fD 66 0 15]) ⟨q,Zt⟩ Zt (Zq (ac ce bW q q) q (Zq (ac aM az q q) q (Zq (ac aM az q q) q (Zq (ac aM az q q) q (WL.s ((NewOs.b (ad cr az q dC dC q q q dC)).does) (Zw q) q q ?_)))))
 refine WL.freezeX [54] [] 10 _ q (ai aI [fD 68 0 15,fD 65 0 15,fD 66 0 15]) ⟨q,Zt⟩ Zt (Zq (ac ce bW q q) q (Zq (ac aM az q q) q (Zq (ac aM az q q) q (Zq (ac aM az q q) q (WL.s ((NewOs.b (ad cr az q dC dC q q q dC)).does) (Zw q) q q ?_)))))
 refine WL.freezeX [59] [] 11 _ q (ai aI [fD 68 0 15,fD 65 0 15,fD 66 0 15]) ⟨q,Zt⟩ Zt (Zq (ac ce bW q q) q (Zq (ac aM az q q) q (Zq (ac aM az q q) q (Zq (ac aM az q q) q (WL.s ((NewOs.b (ad cr az q dC dC q q q dC)).does) (Zw q) q q ?_)))))
 refine WL.freezeX [64] [] 12 _ q (ai aI [fD 68 0 15,fD 65 0 15,fD 66 0 15]) ⟨q,Zt⟩ Zt (Zq (ac ce bW q q) q (Zq (ac aM az q q) q (Zq (ac aM az q q) q (Zq (ac aM az q q) q (WL.s ((NewOs.b (ad cr az q dC dC q q q dC)).does) (Zw q) q q ?_)))))
 refine WL.freezeX [69] [] 13 _ q (ai aI [fD 68 0 15,fD 65 0 15,fD 66 0 15]) ⟨q,Zt⟩ Zt (Zq (ac ce bW q q) q (Zq (ac aM az q q) q (Zq (ac aM az q q) q (Zq (ac aM az q q) q (WL.s ((NewOs.b (ad cr az q dC dC q q q dC)).does) (Zw q) q q ?_)))))
 refine WL.freezeX [74] [] 14 _ q (ai aI [fD 68 0 15,fD 65 0 15,fD 66 0 15]) ⟨q,Zt⟩ Zt (Zq (ac ce bW q q) q (Zq (ac aM az q q) q (Zq (ac aM az q q) q (Zq (ac aM az q q) q (WL.s ((NewOs.b (ad cr az q dC dC q q q dC)).does) (Zw q) q q ?_)))))
 refine WL.freezeX [79] [] 15 _ q (ai aI [fD 68 0 15,fD 65 0 15,fD 66 0 15]) ⟨q,Zt⟩ Zt (Zq (ac ce bW q q) q (Zq (ac aM az q q) q (Zq (ac aM az q q) q (Zq (ac aM az q q) q (WL.s ((NewOs.b (ad cr az q dC dC q q q dC)).does) (Zw q) q q ?_)))))
 refine WL.freezeX [84] [] 16 _ q (ai aI [fD 68 0 15,fD 65 0 15,fD 66 0 15]) ⟨q,Zt⟩ Zt (Zq (ac ce bW q q) q (Zq (ac aM az q q) q (Zq (ac aM az q q) q (Zq (ac aM az q q) q (WL.s ((NewOs.b (ad cr az q dC dC q q q dC)).does) (Zw q) q q ?_)))))
 refine WL.freezeX [89] [] 17 _ q (ai aI [fD 68 0 15,fD 65 0 15,fD 66 0 15]) ⟨q,Zt⟩ Zt (Zq (ac ce bW q q) q (Zq (ac aM az q q) q (Zq (ac aM az q q) q (Zq (ac aM az q q) q (WL.s ((NewOs.b (ad cr az q dC dC q q q dC)).does) (Zw q) q q ?_)))))
 refine WL.freezeX [94] [] 18 _ q (ai aI [fD 68 0 15,fD 65 0 15,fD 66 0 15]) ⟨q,Zt⟩ Zt (Zq (ac ce bW q q) q (Zq (ac aM az q q) q (Zq (ac aM az q q) q (Zq (ac aM az q q) q (WL.s ((NewOs.b (ad cr az q dC dC q q q dC)).does) (Zw q) q q ?_)))))
 refine WL.freezeX [99] [] 19 _ q (ai aI [fD 68 0 15,fD 65 0 15,fD 66 0 15]) ⟨q,Zt⟩ Zt (Zq (ac ce bW q q) q (Zq (ac aM az q q) q (Zq (ac aM az q q) q (Zq (ac aM az q q) q (WL.s ((NewOs.b (ad cr az q dC dC q q q dC)).does) (Zw q) q q ?_)))))
 refine WL.freezeX [104] [] 20 _ q (ai aI [fD 68 0 15,fD 65 0 15,fD 66 0 15]) ⟨q,Zt⟩ Zt (Zq (ac ce bW q q) q (Zq (ac aM az q q) q (Zq (ac aM az q q) q (Zq (ac aM az q q) q (WL.s ((NewOs.b (ad cr az q dC dC q q q dC)).does) (Zw q) q q ?_)))))
 refine WL.freezeX [109] [] 21 _ q (ai aI [fD 68 0 15,fD 65 0 15,fD 66 0 15]) ⟨q,Zt⟩ Zt (Zq (ac ce bW q q) q (Zq (ac aM az q q) q (Zq (ac aM az q q) q (Zq (ac aM az q q) q (WL.s ((NewOs.b (ad cr az q dC dC q q q dC)).does) (Zw q) q q ?_)))))
 refine WL.freezeX [114] [] 22 _ q (ai aI [fD 68 0 15,fD 65 0 15,fD 66 0 15]) ⟨q,Zt⟩ Zt (Zq (ac ce bW q q) q (Zq (ac aM az q q) q (Zq (ac aM az q q) q (WL.s ((NewOs.b (ad cr az q dC dC q q q dC)).does) (Zw q) q q ?_))))
 refine WL.freezeX [118] [] 23 _ q (ai aI [fD 68 0 15,fD 65 0 15]) ⟨q,Zt⟩ Zt (Zq (ac ce bW q q) q (Zq (ac aM az q q) q (Zq (ac aM az q q) q (WL.s ((NewOs.b (ad cr az q dC dC q q q dC)).does) (Zw q) q q ?_))))
 refine WL.freezeX [122] [] 24 _ q (ai aI [fD 68 0 15,fD 65 0 15]) ⟨q,Zt⟩ Zt (Zq (ac ce bW q q) q (Zq (ac aM az q q) q (Zq (ac aM az q q) q (WL.s ((NewOs.b (ad cr az q dC dC q q q dC)).does) (Zw q) q q ?_))))
 refine WL.freezeX [126] [] 25 _ q (ai aI [fD 68 0 15,fD 65 0 15]) ⟨q,Zt⟩ Zt (Zq (ac ce bW q q) q (Zq (ac aM az q q) q (Zq (ac aM az q q) q (Zq (ac aM az q q) q (WL.s ((NewOs.b (ad cr az q dC dC q q q dC)).does) (Zw q) q q ?_)))))
 refine WL.freezeX [131] [] 26 _ q (ai aI [fD 65 0 15,fD 78 (-9223372036854775808) 9223372036854775807,fD 77 (-9223372036854775808) 9223372036854775807]) ⟨q,Zt⟩ Zt (Zq (ac ce bW q q) q (Zq (ac aM az q q) q (WL.s ((NewOs.b (ad cr az q dC dC q q q dC)).does) (Zw q) q q ?_)))
 refine WL.freezeX [134] [] 27 _ q (ai aI [fD 65 0 15]) ⟨q,Zt⟩ Zt (Zq (ac ce bW q q) q (Zq (ac aM az q q) q (WL.s ((NewOs.b (ad cr az q dC dC q q q dC)).does) (Zw q) q q ?_)))
 refine WL.freezeX [137] [] 28 _ q (ai aI [fD 84 0 65535]) ⟨q,Zt⟩ Zt (Zq (ac ce bW q q) q (Zq (ac aM az q q) q (Zq (ac aM az q q) q (WL.s ((NewOs.b (ad cr az q dC dC q q q dC)).does) (Zw q) q q ?_))))
 refine WL.freezeX [141] [] 29 _ q (ai aI [fD 65 0 15,fD 84 0 65535]) ⟨q,Zt⟩ Zt (Zq (ac ce bW q q) q (Zq (ac aM az q q) q (Zq (ac aM az q q) q (WL.s ((NewOs.b (ad cr az q dC dC q q q dC)).does) (Zw q) q q ?_))))
 refine WL.freezeX [145] [] 30 _ q (ai aI [fD 65 0 15,fD 84 0 65535]) ⟨q,Zt⟩ Zt (Zq (ac ce bW q q) q (Zq (ac aM az q q) q (Zq (ac aM az q q) q (Zq (ac aM az q q) q (Zq (ac aM az q q) q (WL.s ((NewOs.b (ad cr az q dC dC q q q dC)).does) (Zw q) q q ?_))))))
 refine WL.freezeX [151] [] 31 _ q (ai aI [fD 65 0 15,fD 78 (-9223372036854775808) 9223372036854775807,fD 77 1 65536,fD 84 0 65535]) ⟨q,Zt⟩ Zt (Zq (ac ce bW q q) q (Zq (ac aM az q q) q (WL.s ((NewOs.b (ad cr az q dC dC q q q dC)).does) (Zw q) q q ?_)))
 refine WL.freezeX [154] [] 32 _ q (ai aI [fD 78 1 64]) ⟨q,Zt⟩ Zt (Zq (ac ce bW q q) q (Zq (ac aM az q q) q (WL.s ((NewOs.b (ad cr az q dC dC q q q dC)).does) (Zw q) q q ?_)))
 refine WL.freezeX [157] [] 33 _ q (ai aI [fD 65 0 15]) ⟨q,Zt⟩ Zt (Zq (ac ce bW q q) q (Zq (ac aM az q q) q (WL.s ((NewOs.b (ad cr az q dC dC q q q dC)).does) (Zw q) q q ?_)))
 refine WL.freezeX [160] [] 34 _ q (ai aI [fD 65 0 15]) ⟨q,Zt⟩ Zt (Zq (ac ce bW q q) q (Zq (ac aM az q q) q (WL.s ((NewOs.b (ad cr az q dC dC q q q dC)).does) (Zw q) q q ?_)))
 refine WL.freezeX [163] [] 35 _ q (ai aI [fD 68 0 15]) ⟨q,Zt⟩ Zt (Zq (ac ce bW q q) q (Zq (ac aM az q q) q (Zq (ac aM az q q) q (WL.s ((NewOs.b (ad cr az q dC dC q q q dC)).does) (Zw q) q q ?_))))
 refine WL.freezeX [167] [] 36 _ q (ai aI [fD 78 6 7,fD 77 0 65535]) ⟨q,Zt⟩ Zt (Zq (ac ce bW q q) q (Zq (ac aM az q q) q (WL.s ((NewOs.b (ad cr az q dC dC q q q dC)).does) (Zw q) q q ?_)))
 refine WL.freezeX [170] [] 37 _ q (ai aI [fD 68 0 15]) ⟨q,Zt⟩ Zt (Zq (ac ce bW q q) q (Zq (ac aM az q q) q (WL.s ((NewOs.b (ad cr az q dC dC q q q dC)).does) (Zw q) q q ?_)))
 refine WL.freezeX [173] [] 38 _ q (ai aI [fD 65 0 15]) ⟨q,Zt⟩ Zt (Zq (ac ce bW q q) q (Zq (ac ce bW q q) q (Zq (ac ce bW q q) q (Zq (ac aM az q q) q (WL.s ((NewOs.b (ad cr az q dC dC q q q dC)).does) (Zw q) q q ?_)))))
 refine WL.freezeX [178] [] 39 _ q (ai aI [fD 68 0 15]) ⟨q,Zt⟩ Zt (Zq (ac ce bW q q) q (Zq (ac aM az q q) q (Zq (ac aM az q q) q (Zq (ac aM az q q) q (WL.s ((NewOs.b (ad cr az q dC dC q q q dC)).does) (Zw q) q q ?_)))))
 refine WL.freezeX [183] [] 40 _ q (ai aI [fD 68 0 15,fD 78 0 7,fD 77 (-1) 31]) ⟨q,Zt⟩ Zt (Zq (ac ce bW q q) q (Zq (ac aM az q q) q (WL.s ((NewOs.b (ad cr az q dC dC q q q dC)).does) (Zw q) q q ?_)))
 refine WL.freezeX [186] [] 41 _ q (ai aI [fD 78 0 65535]) ⟨q,Zt⟩ Zt (Zq (ac ce bW q q) q (Zq (ac aM az q q) q (WL.s ((NewOs.b (ad cr az q dC dC q q q dC)).does) (Zw q) q q ?_)))
 refine WL.freezeX [189] [] 42 _ q (ai aI [fD 78 0 65535]) ⟨q,Zt⟩ Zt (Zq (ac ce bW q q) q (Zq (ac aM az q q) q (Zq (ac aM az q q) q (WL.s ((NewOs.b (ad cr az q dC dC q q q dC)).does) (Zw q) q q ?_))))
 refine WL.freezeX [193] [] 43 _ q (ai aI [fD 65 0 15,fD 78 0 65535]) ⟨q,Zt⟩ Zt (Zq (ac ce bW q q) q (Zq (ac aM az q q) q (WL.s ((NewOs.b (ad cr az q dC dC q q q dC)).does) (Zw q) q q ?_)))
 refine WL.freezeX [196] [] 44 _ q (ai aI [fD 65 0 15]) ⟨q,Zt⟩ Zt (Zq (ac ce bW q q) q (Zq (ac aM az q q) q (WL.s ((NewOs.b (ad cr az q dC dC q q q dC)).does) (Zw q) q q ?_)))
 refine WL.freezeX [199] [] 45 _ q (ai aI [fD 65 0 15]) ⟨q,Zt⟩ Zt (Zq (ac ce bW q q) q (Zq (ac aM az q q) q (Zq (ac aM az q q) q (Zq (ac aM az q q) q (Zq (ac aM az q q) q (Zq (ac aM az q q) q (WL.s ((NewOs.b (ad cr az q dC dC q q q dC)).does) (Zw q) q q ?_)))))))
 refine WL.freezeX [206] [] 46 _ q (ai aI [fD 68 0 15,fD 65 0 31,fD 66 0 7,fD 78 0 4095,fD 77 0 3]) ⟨q,Zt⟩ Zt (Zq (ac ce bW q q) q (Zq (ac aM az q q) q (WL.s ((NewOs.b (ad cr az q dC dC q q q dC)).does) (Zw q) q q ?_)))
 refine WL.freezeX [209] [] 47 _ q (ai aI [fD 78 0 1023]) ⟨q,Zt⟩ Zt (Zq (ac ce bW q q) q (Zq (ac aM az q q) q (WL.s ((NewOs.b (ad cr az q dC dC q q q dC)).does) (Zw q) q q ?_)))
 refine WL.freezeX [212] [] 48 _ q (ai aI [fD 78 0 1]) ⟨q,Zt⟩ Zt (Zq (ac ce bW q q) q (Zq (ac aM az q q) q (Zq (ac aM az q q) q (Zq (ac aM az q q) q (Zq (ac aM az q q) q (WL.s ((NewOs.b (ad cr az q dC dC q q q dC)).does) (Zw q) q q ?_))))))
 refine WL.freezeX [218] [] 49 _ q (ai aI [fD 65 0 31,fD 66 0 7,fD 78 0 1,fD 84 0 65535]) ⟨q,Zt⟩ Zt (Zq (ac ce bW q q) q (Zq (ac aM az q q) q (WL.s ((NewOs.b (ad cr az q dC dC q q q dC)).does) (Zw q) q q ?_)))
 refine WL.freezeX [221] [] 50 _ q (ai aI [fD 78 0 31]) ⟨q,Zt⟩ Zt (Zq (ac ce bW q q) q (Zq (ac aM az q q) q (Zq (ac aM az q q) q (Zq (ac aM az q q) q (Zq (ac aM az q q) q (Zq (ac aM az q q) q (WL.s ((NewOs.b (ad cr az q dC dC q q q dC)).does) (Zw q) q q ?_)))))))
 refine WL.freezeX [228] [] 51 _ q (ai aI [fD 68 0 15,fD 65 0 15,fD 66 0 3,fD 78 0 31,fD 77 0 7]) ⟨q,Zt⟩ Zt (Zq (ac ce bW q q) q (Zq (ac aM az q q) q (WL.s ((NewOs.b (ad cr az q dC dC q q q dC)).does) (Zw q) q q ?_)))
 refine WL.freezeX [231] [] 52 _ q (ai aI [fD 78 0 31]) ⟨q,Zt⟩ Zt (Zq (ac ce bW q q) q (Zq (ac aM az q q) q (WL.s ((NewOs.b (ad cr az q dC dC q q q dC)).does) (Zw q) q q ?_)))
 refine WL.freezeX [234] [] 53 _ q (ai aI [fD 78 0 65535]) ⟨q,Zt⟩ Zt (Zq (ac ce bW q q) q (Zq (ac ce bW q q) q ?_))
 refine WL.s ((NewOs.b (NewOs.weak (es':=List.map (a9 u6) [(Row.mk 1 (bA #[108,105]) [fD 68 0 15,fD 78 (-9223372036854775808) 9223372036854775807]),(Row.mk 2 (bA #[109,118]) [fD 68 0 15,fD 65 0 15]),(Row.mk 3 (bA #[108,100]) [fD 68 0 15,fD 78 0 4095,fD 77 0 65535]),(Row.mk 4 (bA #[115,116]) [fD 65 0 15,fD 78 0 4095,fD 77 0 65535]),(Row.mk 5 (bA #[108,100,120]) [fD 68 0 15,fD 65 0 15,fD 66 1 65536,fD 78 0 4095,fD 77 0 65535]),(Row.mk 6 (bA #[115,116,120]) [fD 68 0 15,fD 65 0 15,fD 66 1 65536,fD 78 0 4095,fD 77 0 65535]),(Row.mk 7 (bA #[108,100,97]) [fD 68 0 15,fD 65 0 15]),(Row.mk 8 (bA #[115,116,97]) [fD 68 0 15,fD 65 0 15]),(Row.mk 9 (bA #[97,100,100]) [fD 68 0 15,fD 65 0 15,fD 66 0 15]),(Row.mk 10 (bA #[115,117,98]) [fD 68 0 15,fD 65 0 15,fD 66 0 15]),(Row.mk 11 (bA #[109,117,108]) [fD 68 0 15,fD 65 0 15,fD 66 0 15]),(Row.mk 12 (bA #[100,105,118]) [fD 68 0 15,fD 65 0 15,fD 66 0 15]),(Row.mk 13 (bA #[114,101,109]) [fD 68 0 15,fD 65 0 15,fD 66 0 15]),(Row.mk 14 (bA #[109,111,100]) [fD 68 0 15,fD 65 0 15,fD 66 0 15]),(Row.mk 15 (bA #[101,113]) [fD 68 0 15,fD 65 0 15,fD 66 0 15]),(Row.mk 16 (bA #[110,101]) [fD 68 0 15,fD 65 0 15,fD 66 0 15]),(Row.mk 17 (bA #[108,116]) [fD 68 0 15,fD 65 0 15,fD 66 0 15]),(Row.mk 18 (bA #[108,101]) [fD 68 0 15,fD 65 0 15,fD 66 0 15]),(Row.mk 19 (bA #[103,116]) [fD 68 0 15,fD 65 0 15,fD 66 0 15]),(Row.mk 20 (bA #[103,101]) [fD 68 0 15,fD 65 0 15,fD 66 0 15]),(Row.mk 21 (bA #[97,110,100]) [fD 68 0 15,fD 65 0 15,fD 66 0 15]),(Row.mk 22 (bA #[111,114]) [fD 68 0 15,fD 65 0 15,fD 66 0 15]),(Row.mk 23 (bA #[120,111,114]) [fD 68 0 15,fD 65 0 15,fD 66 0 15]),(Row.mk 24 (bA #[110,101,103]) [fD 68 0 15,fD 65 0 15]),(Row.mk 25 (bA #[97,98,115]) [fD 68 0 15,fD 65 0 15]),(Row.mk 26 (bA #[110,111,116]) [fD 68 0 15,fD 65 0 15]),(Row.mk 27 (bA #[99,104,107]) [fD 65 0 15,fD 78 (-9223372036854775808) 9223372036854775807,fD 77 (-9223372036854775808) 9223372036854775807]),(Row.mk 28 (bA #[99,104,107,122]) [fD 65 0 15]),(Row.mk 29 (bA #[106,109,112]) [fD 84 0 65535]),(Row.mk 30 (bA #[106,122]) [fD 65 0 15,fD 84 0 65535]),(Row.mk 31 (bA #[106,110,122]) [fD 65 0 15,fD 84 0 65535]),(Row.mk 32 (bA #[106,116]) [fD 65 0 15,fD 78 (-9223372036854775808) 9223372036854775807,fD 77 1 65536,fD 84 0 65535]),(Row.mk 33 (bA #[114,97,105,115,101]) [fD 78 1 64]),(Row.mk 34 (bA #[114,97,105,115,101,114]) [fD 65 0 15]),(Row.mk 35 (bA #[99,111,110,116]) [fD 65 0 15]),(Row.mk 36 (bA #[101,120,99]) [fD 68 0 15]),(Row.mk 37 (bA #[109,97,114,107]) [fD 78 6 7,fD 77 0 65535]),(Row.mk 38 (bA #[103,101,116]) [fD 68 0 15]),(Row.mk 39 (bA #[112,117,116]) [fD 65 0 15]),(Row.mk 40 (bA #[100,101,102,101,114]) []),(Row.mk 41 (bA #[97,108,108,111,119]) []),(Row.mk 42 (bA #[99,108,111,99,107]) [fD 68 0 15]),(Row.mk 43 (bA #[99,111,117,110,116]) [fD 68 0 15,fD 78 0 7,fD 77 (-1) 31]),(Row.mk 44 (bA #[115,116,97,114,116]) [fD 78 0 65535]),(Row.mk 45 (bA #[110,101,118,101,114]) [fD 78 0 65535]),(Row.mk 46 (bA #[97,119,97,105,116]) [fD 65 0 15,fD 78 0 65535]),(Row.mk 47 (bA #[100,101,108,97,121]) [fD 65 0 15]),(Row.mk 48 (bA #[117,110,116,105,108]) [fD 65 0 15]),(Row.mk 49 (bA #[99,97,108,108]) [fD 68 0 15,fD 65 0 31,fD 66 0 7,fD 78 0 4095,fD 77 0 3]),(Row.mk 50 (bA #[115,101,108]) [fD 78 0 1023]),(Row.mk 51 (bA #[100,111,110,101]) [fD 78 0 1]),(Row.mk 52 (bA #[114,101,113]) [fD 65 0 31,fD 66 0 7,fD 78 0 1,fD 84 0 65535]),(Row.mk 53 (bA #[108,111,99,107]) [fD 78 0 31]),(Row.mk 54 (bA #[112,101,110,116]) [fD 68 0 15,fD 65 0 15,fD 66 0 3,fD 78 0 31,fD 77 0 7]),(Row.mk 55 (bA #[117,110,108,111,99,107]) [fD 78 0 31]),(Row.mk 56 (bA #[97,98,111,114,116]) [fD 78 0 65535]),(Row.mk 57 (bA #[101,110,100]) [])]) (ad l167 bW q dC dC q q q dC) (by exact⟨Lw,Lw,Lw,Lw,Lw,Lw,Lw,Lw,Lw,Lw,Lw,Lw,Lw,Lw,Lw,Lw,Lw,Lw,Lw,Lw,Lw,Lw,Lw,Lw,Lw,Lw,Lw,Lw,Lw,Lw,Lw,Lw,Lw,Lw,Lw,Lw,Lw,Lw,Lw,⟨Zl,Zl,Le.nil,Zt⟩,⟨Zl,Zl,Le.nil,Zt⟩,Lw,Lw,Lw,Lw,Lw,Lw,Lw,Lw,Lw,Lw,Lw,Lw,Lw,Lw,Lw,⟨Zl,Zl,Le.nil,Zt⟩,Zt⟩))).does) (Zw q) q q ?_
 refine Rlx 4 q ?_
 refine WE.freezeX [0,237] [] 54 _ q (ai nH [(Row.mk 1 (bA #[108,105]) [fD 68 0 15,fD 78 (-9223372036854775808) 9223372036854775807]),(Row.mk 2 (bA #[109,118]) [fD 68 0 15,fD 65 0 15]),(Row.mk 3 (bA #[108,100]) [fD 68 0 15,fD 78 0 4095,fD 77 0 65535]),(Row.mk 4 (bA #[115,116]) [fD 65 0 15,fD 78 0 4095,fD 77 0 65535]),(Row.mk 5 (bA #[108,100,120]) [fD 68 0 15,fD 65 0 15,fD 66 1 65536,fD 78 0 4095,fD 77 0 65535]),(Row.mk 6 (bA #[115,116,120]) [fD 68 0 15,fD 65 0 15,fD 66 1 65536,fD 78 0 4095,fD 77 0 65535]),(Row.mk 7 (bA #[108,100,97]) [fD 68 0 15,fD 65 0 15]),(Row.mk 8 (bA #[115,116,97]) [fD 68 0 15,fD 65 0 15]),(Row.mk 9 (bA #[97,100,100]) [fD 68 0 15,fD 65 0 15,fD 66 0 15]),(Row.mk 10 (bA #[115,117,98]) [fD 68 0 15,fD 65 0 15,fD 66 0 15]),(Row.mk 11 (bA #[109,117,108]) [fD 68 0 15,fD 65 0 15,fD 66 0 15]),(Row.mk 12 (bA #[100,105,118]) [fD 68 0 15,fD 65 0 15,fD 66 0 15]),(Row.mk 13 (bA #[114,101,109]) [fD 68 0 15,fD 65 0 15,fD 66 0 15]),(Row.mk 14 (bA #[109,111,100]) [fD 68 0 15,fD 65 0 15,fD 66 0 15]),(Row.mk 15 (bA #[101,113]) [fD 68 0 15,fD 65 0 15,fD 66 0 15]),(Row.mk 16 (bA #[110,101]) [fD 68 0 15,fD 65 0 15,fD 66 0 15]),(Row.mk 17 (bA #[108,116]) [fD 68 0 15,fD 65 0 15,fD 66 0 15]),(Row.mk 18 (bA #[108,101]) [fD 68 0 15,fD 65 0 15,fD 66 0 15]),(Row.mk 19 (bA #[103,116]) [fD 68 0 15,fD 65 0 15,fD 66 0 15]),(Row.mk 20 (bA #[103,101]) [fD 68 0 15,fD 65 0 15,fD 66 0 15]),(Row.mk 21 (bA #[97,110,100]) [fD 68 0 15,fD 65 0 15,fD 66 0 15]),(Row.mk 22 (bA #[111,114]) [fD 68 0 15,fD 65 0 15,fD 66 0 15]),(Row.mk 23 (bA #[120,111,114]) [fD 68 0 15,fD 65 0 15,fD 66 0 15]),(Row.mk 24 (bA #[110,101,103]) [fD 68 0 15,fD 65 0 15]),(Row.mk 25 (bA #[97,98,115]) [fD 68 0 15,fD 65 0 15]),(Row.mk 26 (bA #[110,111,116]) [fD 68 0 15,fD 65 0 15]),(Row.mk 27 (bA #[99,104,107]) [fD 65 0 15,fD 78 (-9223372036854775808) 9223372036854775807,fD 77 (-9223372036854775808) 9223372036854775807]),(Row.mk 28 (bA #[99,104,107,122]) [fD 65 0 15]),(Row.mk 29 (bA #[106,109,112]) [fD 84 0 65535]),(Row.mk 30 (bA #[106,122]) [fD 65 0 15,fD 84 0 65535]),(Row.mk 31 (bA #[106,110,122]) [fD 65 0 15,fD 84 0 65535]),(Row.mk 32 (bA #[106,116]) [fD 65 0 15,fD 78 (-9223372036854775808) 9223372036854775807,fD 77 1 65536,fD 84 0 65535]),(Row.mk 33 (bA #[114,97,105,115,101]) [fD 78 1 64]),(Row.mk 34 (bA #[114,97,105,115,101,114]) [fD 65 0 15]),(Row.mk 35 (bA #[99,111,110,116]) [fD 65 0 15]),(Row.mk 36 (bA #[101,120,99]) [fD 68 0 15]),(Row.mk 37 (bA #[109,97,114,107]) [fD 78 6 7,fD 77 0 65535]),(Row.mk 38 (bA #[103,101,116]) [fD 68 0 15]),(Row.mk 39 (bA #[112,117,116]) [fD 65 0 15]),(Row.mk 40 (bA #[100,101,102,101,114]) []),(Row.mk 41 (bA #[97,108,108,111,119]) []),(Row.mk 42 (bA #[99,108,111,99,107]) [fD 68 0 15]),(Row.mk 43 (bA #[99,111,117,110,116]) [fD 68 0 15,fD 78 0 7,fD 77 (-1) 31]),(Row.mk 44 (bA #[115,116,97,114,116]) [fD 78 0 65535]),(Row.mk 45 (bA #[110,101,118,101,114]) [fD 78 0 65535]),(Row.mk 46 (bA #[97,119,97,105,116]) [fD 65 0 15,fD 78 0 65535]),(Row.mk 47 (bA #[100,101,108,97,121]) [fD 65 0 15]),(Row.mk 48 (bA #[117,110,116,105,108]) [fD 65 0 15]),(Row.mk 49 (bA #[99,97,108,108]) [fD 68 0 15,fD 65 0 31,fD 66 0 7,fD 78 0 4095,fD 77 0 3]),(Row.mk 50 (bA #[115,101,108]) [fD 78 0 1023]),(Row.mk 51 (bA #[100,111,110,101]) [fD 78 0 1]),(Row.mk 52 (bA #[114,101,113]) [fD 65 0 31,fD 66 0 7,fD 78 0 1,fD 84 0 65535]),(Row.mk 53 (bA #[108,111,99,107]) [fD 78 0 31]),(Row.mk 54 (bA #[112,101,110,116]) [fD 68 0 15,fD 65 0 15,fD 66 0 3,fD 78 0 31,fD 77 0 7]),(Row.mk 55 (bA #[117,110,108,111,99,107]) [fD 78 0 31]),(Row.mk 56 (bA #[97,98,111,114,116]) [fD 78 0 65535]),(Row.mk 57 (bA #[101,110,100]) [])]) ⟨q,q,Zt⟩ Zt ?_
 exact FB h

theorem f62_c{o0:Int}{r:Row×Bool}(h:f62 o0=some r):Pu prog 62 [.i .u8 o0] (.tu [.ag (u6 r.1), .b r.2]):=by
 unfold f62 at h
 refine fI func62 λ_ _=>?_
 refine Rcl 2 q (Al bW q (Rll 5 q (WL.fn q q q q (f102_c) Zt (Zw q) q q (Rlc 3 q (Jn0 [(2, .pt 0 0)] [.row 130 [.d (D.i .u8 0), .d (D.s ByteArray.empty),sN]] h (λc h=>?_) λh=>?_)))))
 refine Rcc 6 q (Ln1 (λa=> [(0, .d (D.i .u8 o0)),(2, .pt 0 0),(4, .l u9 f102),(5, .n a)]) (λ_=> [.row 130 [.d (D.i .u8 0), .d (D.s ByteArray.empty),sN]]) (f62_l1 o0 c) h (λ_ h=>by rw[f62_l1] at h;cases h) λn a h=>?_)
 rw[f62_l1] at h
 refine Rcl 5 q (Zq (ab u9 f102 wr q q Zl) q (Rlc 3 q (Ci h q (λh=>?_) λh=>?_)))
 refine Rcl 8 q (Ix h wr nH q Zl q q λe _ h=>(Rlc 6 q (Ci h q (λh=>?_) λh=>?_)))
 refine Rcl 4 q (Ix h wr nH q Zl q q λf _ h=>(Rl 1 q (sS Z6 sY Z2 (Rlx 9 q ?_))))
 obtain rfl:=Oi h
 exact am (rs2 q (aZ q q a130 sY q) (aR q)) (aY ⟨(ak (Zs _)),Zl,Zt⟩)
 exact Rcx 8 q (Fn1 h)
 exact Rcx 4 q (En0 h)
 refine Rcl 2 q (Zq (ac ce bW q q) q (sS Z6 sY Z2 (Rlx 4 q ?_)))
 obtain rfl:=Oi h
 exact am (rs2 q (aZ q q a130 sY q) (aR q)) (aY ⟨(ak ⟨Zl,Zl,Le.nil,Zt⟩),Zl,Zt⟩)

theorem f63_c{x0:ao}{f1:Int}:Pu prog 63 [.ag (R59 x0), .i .u8 f1] (.i .i64 (f63 x0 f1)):=by
 generalize h:f63 x0 f1=r
 unfold f63 at h
 refine fI func63 λ_ _=>?_
 refine Rcl 2 q (Bd q q (Zs _) q (Rlc 16 q (Ci h q (λh=>?_) λh=>?_)))
 exact Rcx 10 q (FB h)
 refine Rcc 6 q (Ci h q (λh=>Rcx 10 q (FB h)) λh=>?_)
 refine Rcc 6 q (Ci h q (λh=>Rcx 10 q (FB h)) λh=>?_)
 refine Rcc 6 q (Ci h q (λh=>Rcx 10 q (FB h)) λh=>?_)
 exact Rcc 6 q (Ci h q (λh=>Rcx 10 q (FB h)) λh=>Rcx 11 q (FB h))

theorem f64_c(x0:ao)(f1:Int)(v2:Int):Pu prog 64 [.ag (R59 x0), .i .u8 f1, .i .i64 v2] (.ag (R59 (f64 x0 f1 v2))):=by
 generalize h:f64 x0 f1 v2=r
 unfold f64 at h
 refine fI func64 λ_ _=>?_
 refine Rcl 2 q (Bx q q q (Al z59 q (Rlc 2 q (Jn6 (λ_ _ _ _ _ _=> [(3, .pt 0 0),(6, .pt 1 0)]) (λc01v35 c02v36 c03v37 c04v38 c05v39 c06v40=> [.row 59 [.d (D.i .u8 x0.op), .n c01v35, .n c02v36, .n c03v37, .n c04v38, .n c05v39, .n c06v40], .row 59 [.d (D.i .u8 0), .n 0, .n 0, .n 0, .n 0, .n 0, .n 0]]) h (λ_ h=>?_) λc01v35 c02v36 c03v37 c04v38 c05v39 c06v40 h=>?_))))
 refine Rcc 12 q (Ci h q (λh=>Rcl 3 q (sS Z6 s3 Z2 (Rlx 2 q (En6 h)))) λh=>?_)
 refine Rcc 6 q (Ci h q (λh=>Rcl 3 q (sS Z6 s3 Z2 (Rlx 2 q (En6 h)))) λh=>?_)
 refine Rcc 6 q (Ci h q (λh=>Rcl 3 q (sS Z6 s3 Z2 (Rlx 2 q (En6 h)))) λh=>?_)
 refine Rcc 6 q (Ci h q (λh=>Rcl 3 q (sS Z6 s2 Z2 (Rlx 2 q (En6 h)))) λh=>?_)
 exact Rcc 6 q (Ci h q (λh=>Rcl 3 q (sS Z6 s2 Z2 (Rlx 2 q (En6 h)))) λh=>Rcl 3 q (sS Z6 s3 Z2 (Rlx 2 q (En6 h))))
 refine Rcl 3 q (sS Z6 s59 Z2 (Rlx 3 q ?_))
 subst h
 exact am (rs1 q (aZ q q a59 s59 q)) (ak (Zs _))

theorem f38_c{x0:ao}{r:Bool}(h:f38 x0=some r):Pu prog 38 [.ag (R59 x0)] (.b r):=by
 unfold f38 at h
 refine fI func38 λ_ _=>?_
 refine Rcl 2 q (Bd q q (Zs _) q (Rll 7 q ?_))
 obtain⟨a,e,h⟩:=ae h
 refine wF Z4 (f62_c e) Lw Z3 (Rl 3 q (Al bW q (sS Z6 sY Z2 (Rlc 10 q (Ci h q (λh=>?_) λh=>?_)))))
 exact Rcx 7 q (FA h)
 refine Rcl 5 q (Al z59 q (sS Z6 s59 Z2 (Rll 5 q (sS Z6 s57 Z2 (Rlc 2 q (Jn7 (λ_ _ _ _ _ _ _=> [(1, .d (.pc (R59 x0))),(5, .pt 1 0)]) (λc10v82 c11v83 c12v84 c13v85 c14v86 c15v87 c16v88=> [.row 130 [.d (D.i .u8 a.1.op), .d (D.s a.1.name), .l t9 a.1.fields], .row 59 [.d (D.i .u8 c10v82), .n c11v83, .n c12v84, .n c13v85, .n c14v86, .n c15v87, .n c16v88]]) h (λf h=>?_) λc10v82 c11v83 c12v84 c13v85 c14v86 c15v87 c16v88 h=>?_))))))
 refine Rcc 6 q (Ln8 (λc _ _ _ _ _ _ _=> [(1, .d (.pc (R59 x0))),(3, .pt 0 0),(5, .pt 1 0),(6, .n c)]) (λ_ c10v99 c11v100 c12v101 c13v102 c14v103 c15v104 c16v105=> [.row 130 [.d (D.i .u8 a.1.op), .d (D.s a.1.name), .l t9 a.1.fields], .row 59 [.d (D.i .u8 c10v99), .n c11v100, .n c12v101, .n c13v102, .n c14v103, .n c15v104, .n c16v105]]) (f38_l1 x0 a f) h (λ_ _ _ _ _ _ _ _ h=>by rw[f38_l1] at h;cases h) λn c c10v99 c11v100 c12v101 c13v102 c14v103 c15v104 c16v105 h=>?_)
 rw[f38_l1] at h
 refine Rcl 6 q (Zq (ab t9 a.1.fields e128 q q Zl) q (Rlc 3 q (Ci h q (λh=>?_) λh=>?_)))
 refine Rcl 9 q (Ix h e128 aI q Zl q q λg _ h=>(Rl 1 q (Al az q (sS Z6 s134 Z2 (Rll 7 q (wF Z4 (f63_c) Lw Z3 (Rll 11 q ?_)))))))
 refine OG 5 39 44 5 5 ?_
 refine Rlc 2 q (Ci h q (λh=>Rcx 12 q (FA h)) λh=>?_)
 exact Rcl 6 q (wF Z4 (f64_c (ao.mk c10v99 c11v100 c12v101 c13v102 c14v103 c15v104 c16v105) _ _) ⟨(ak (Zs _)),Zl,Zl,Zt⟩ Z3 (sS Z6 s59 Z2 (Rlx 8 q (WE.drop 2 (env':=[(1, .d (.pc (R59 x0))),(3, .pt 0 0),(5, .pt 1 0),(6, .n (IntKind.i64.wrap (c+1)))]) Sb q q (Nat.zero_le _) (de ⟨_,⟨_,_,_,_,_,_,_,_,h,Sb,Tv⟩,Nat.lt_succ_self _⟩)))))
 exact Rcx 4 q (de ⟨_,_,_,_,_,_,_,h,Sb,Tv⟩)
 refine Rcl 3 q (Zq (ac p59 z59 q q) q (Zq (pE (xs:=[.int .u8 c10v82, .int .i64 c11v83, .int .i64 c12v84, .int .i64 c13v85, .int .i64 c14v86, .int .i64 c15v87, .int .i64 c16v88]) (ys:=[.int .u8 0, .int .i64 0, .int .i64 0, .int .i64 0, .int .i64 0, .int .i64 0, .int .i64 0]) q59 q (ak (Zs _)) q (ak (Zs _)) q q q) q (Rl 1 q ?_)))
 apply WL.and 11 (t:=52) (d:=63)
 exact q
 intro j
 refine Rl 4 q ?_
 refine OG 6 56 62 6 6 ?_
 exact Rn 1 6
 exact Rn 11 11
 refine Rl 1 q ?_
 apply WL.and 14 (t:=64) (d:=78)
 exact q
 intro k
 refine Rl 4 q ?_
 refine OG 4 68 72 4 4 ?_
 refine Rl 1 q ?_
 refine OG 4 73 77 4 4 ?_
 exact Rn 1 8
 exact Rn 14 14
 exact Rlx 4 q (FA h)

theorem f39_c{t0:al}{a:Int}{c:Int}{r:Bool}(h:f39 t0 a c=some r):Pu prog 39 [.ag (R33 t0), .i .i64 a, .i .i64 c] (.b r):=by
 unfold f39 at h
 refine fI func39 λ_ _=>?_
 refine Rcl 2 q (Bd q q (Zs _) q (Rll 11 q (Zq (ab E59 t0.insns e22 q q Zl) q (Rlc 3 q (Ci h q (λh=>?_) λh=>?_)))))
 exact Rcx 7 q (FA h)
 refine Rcc 2 q (Jn0 [] [] h (λf h=>?_) λh=>?_)
 refine Rcc 7 q (Ln1 (λe=> [(1, .n a),(2, .n c),(3, .d (.pc (R33 t0))),(7, .n e)]) (λ_=> []) (f39_l1 t0 a c f) h (λ_ h=>by rw[f39_l1] at h;cases h) λn e h=>?_)
 rw[f39_l1] at h
 refine Rcc 10 q (Ci h q (λh=>?_) λh=>?_)
 refine Rcl 9 q (Ix h e22 c9 q Zl q q λg _ h=>(Rlc 5 q (Ci h q (λh=>?_) λh=>?_)))
 exact Rcx 11 q (FA h)
 exact Rcx 8 q (Fn1 h)
 exact Rcx 4 q (En0 h)
 exact Rcx 6 q (FA h)

theorem f40_c{t0:al}{a:Int}{n2:Int}{r:bO×Bool}(h:f40 t0 a n2=some r):Pu prog 40 [.ag (R33 t0), .i .i64 a, .i .i64 n2] (.tu [.ag (R74 r.1), .b r.2]):=by
 unfold f40 at h
 refine fI func40 λ_ _=>?_
 refine Rcl 2 q (Bd q q (Zs _) q (Al z74 q (Rll 9 q ?_)))
 apply WL.or 6 (t:=10) (d:=16)
 exact q
 intro j
 exact Rl 3 q (Zy (ab E48 t0.tasks e29 q q Zl) q q q (Rl 2 q (WL.nil ⟨q,[_,_,_,_,_,_],q,q,q⟩)))
 exact Rn 6 6
 refine Rl 1 q ?_
 refine OG 3 17 20 3 3 ?_
 refine Rl 1 q ?_
 obtain⟨e,f,h⟩:=ae h
 refine Gg 10 21 31 e f (λh=>?_) (λh=>?_) ?_
 exact On 10 10 h
 refine Rl 4 q ?_
 obtain⟨g,c,h⟩:=ae h
 exact Zy (ah e29 q Zl q (af c) (an dK c) q) q q q (Rl 2 q (Zy (ab E74 g.entries e46 q q Zl) q q q (On 2 10 h)))
 refine Rlc 2 q (Ci h q (λh=>?_) λh=>?_)
 refine Rcl 2 q (Zq (ac p74 z74 q q) q (sS Z6 s74 Z2 (Rlx 5 q ?_)))
 obtain rfl:=Oi h
 exact am (rs2 q (aZ q q a74 s74 q) (aR q)) (aY ⟨(ak ⟨Le.nil,Le.nil,Zt⟩),Zl,Zt⟩)
 refine Rcl 7 q (Ix h e29 dK q Zl q q λk _ h=>(Rl 3 q (Ix h e46 ib q Zl q q λm _ h=>(Rl 1 q (sS Z6 s74 Z2 (Rlx 4 q ?_))))))
 obtain rfl:=Oi h
 exact am (rs2 q (aZ q q a74 s74 q) (aR q)) (aY ⟨(ak (Zs _)),Zl,Zt⟩)

theorem f41_c{t0:al}{p1:Int}{n2:Int}{r:Bool}(h:f41 t0 p1 n2=some r):Pu prog 41 [.ag (R33 t0), .i .i64 p1, .i .i64 n2] (.b r):=by
 unfold f41 at h
 refine fI func41 λ_ _=>?_
 refine Rcl 2 q (Bd q q (Zs _) q (Rll 8 q ?_))
 apply WL.and 6 (t:=9) (d:=15)
 exact q
 intro g
 exact Rl 3 q (Zy (ab E87 t0.prots e30 q q Zl) q q q (Rl 2 q (WL.nil ⟨q,[_,_,_,_,_,_],q,q,q⟩)))
 exact Rn 6 6
 refine Rl 1 q ?_
 refine AG 3 16 19 3 3 ?_
 refine Rl 1 q ?_
 obtain⟨c,e,h⟩:=ae h
 refine Gg 10 20 30 c e (λh=>?_) (λh=>?_) ?_
 refine Rl 4 q ?_
 obtain⟨f,a,h⟩:=ae h
 exact Zy (ah e30 q Zl q (af a) (an nG a) q) q q q (Rl 2 q (Zy (ab E92 f.barriers e85 q q Zl) q q q (On 2 10 h)))
 exact On 10 10 h
 exact Rlx 4 q (FA h)

theorem f17_c{t0:al}{x1:ao}{r:Bool}(h:f17 t0 x1=some r):Pu prog 17 [.ag (R33 t0), .ag (R59 x1)] (.b r):=by
 unfold f17 at h
 refine fI func17 λ_ _=>?_
 refine Rcl 2 q (Bd q q (Zs _) q (Bd q q (Zs _) q (Rll 7 q ?_)))
 obtain⟨I,k,h⟩:=ae h
 refine wF Z4 (f38_c k) Lw Z3 (Rlc 3 q (Ci h q (λh=>?_) λh=>?_))
 exact Rcx 7 q (FA h)
 refine Rcc 10 q (Jn1 (λa=> [(2, .d (.pc (R33 t0))),(3, .d (.pc (R59 x1))),(13, .d (D.i .u8 x1.op)),(14, .d (D.b a))]) (λ_=> []) h (λ_ h=>?_) λa h=>?_)
 exact Rcc 6 q (Ci h q (λh=>Rcx 1 q (En1 h)) λh=>Rcx 4 q (En1 h))
 refine Ci h q (λh=>?_) (λh=>?_)
 refine Rcl 7 q ?_
 obtain⟨K,m,h⟩:=ae h
 exact wF Z4 (f31_c m) Lw Z3 (Rlx 6 q (FA h))
 refine Jn1 (λc=> [(2, .d (.pc (R33 t0))),(3, .d (.pc (R59 x1))),(13, .d (D.i .u8 x1.op)),(23, .d (D.b c))]) (λ_=> []) h (λ_ h=>?_) (λc h=>?_)
 exact Rcc 6 q (Ci h q (λh=>Rcx 1 q (En1 h)) λh=>Rcx 4 q (En1 h))
 refine Ci h q (λh=>?_) (λh=>?_)
 refine Rcl 9 q ?_
 obtain⟨L,p,h⟩:=ae h
 exact wF Z4 (f31_c p) Lw Z3 (Rlx 6 q (FA h))
 refine Jn1 (λe=> [(2, .d (.pc (R33 t0))),(3, .d (.pc (R59 x1))),(13, .d (D.i .u8 x1.op)),(34, .d (D.b e))]) (λ_=> []) h (λ_ h=>?_) (λe h=>?_)
 refine Rcc 6 q (Ci h q (λh=>Rcx 1 q (En1 h)) λh=>?_)
 exact Rcc 6 q (Ci h q (λh=>Rcx 1 q (En1 h)) λh=>Rcx 4 q (En1 h))
 refine Ci h q (λh=>?_) (λh=>?_)
 exact Rcl 5 q (wF Z4 (f33_c) Lw Z3 (Rlx 6 q (FA h)))
 refine Rcc 6 q (Ci h q (λh=>?_) λh=>?_)
 refine Rcl 7 q ?_
 obtain⟨M,w,h⟩:=ae h
 exact wF Z4 (f39_c w) Lw Z3 (Rlx 6 q (FA h))
 refine Rcc 6 q (Ci h q (λh=>Rcx 13 q (FA h)) λh=>?_)
 refine Jn1 (λf=> [(2, .d (.pc (R33 t0))),(3, .d (.pc (R59 x1))),(13, .d (D.i .u8 x1.op)),(57, .d (D.b f))]) (λ_=> []) h (λ_ h=>?_) (λf h=>?_)
 refine Rcc 6 q (Ci h q (λh=>Rcx 1 q (En1 h)) λh=>?_)
 refine Rcc 6 q (Ci h q (λh=>Rcx 1 q (En1 h)) λh=>?_)
 exact Rcc 6 q (Ci h q (λh=>Rcx 1 q (En1 h)) λh=>Rcx 4 q (En1 h))
 refine Ci h q (λh=>?_) (λh=>?_)
 exact Rcl 6 q (Zq (ab E51 t0.lists e26 q q Zl) q (Rlx 7 q (FA h)))
 refine Rcc 6 q (Ci h q (λh=>Rcl 6 q (Zq (ab E98 t0.selects e25 q q Zl) q (Rlx 7 q (FA h)))) λh=>?_)
 refine Rcc 6 q (Ci h q (λh=>?_) λh=>?_)
 refine Rcl 7 q ?_
 obtain⟨g,x,h⟩:=ae h
 refine wF Z4 (f40_c x) Lw Z3 (Rl 3 q (Al z74 q (sS Z6 s74 Z2 (Rll 7 q ?_))))
 obtain⟨y,A,h⟩:=ae h
 refine Gg 13 88 101 y A (λh=>?_) (λh=>?_) ?_
 refine Rl 5 q (Zy (ab E3 g.1.ins e51 q q Zl) q q q (Rl 2 q (Zy (ab E3 g.1.outs e51 q q Zl) q q q (Rl 2 q ?_))))
 obtain⟨N,B,h⟩:=ae h
 exact WL.fn q q q q (f31_c B) Lw (aG q q q) q q (On 1 13 h)
 exact On 13 13 h
 exact Rlx 6 q (FA h)
 refine Rcc 6 q (Ci h q (λh=>?_) λh=>?_)
 refine Rcl 7 q ?_
 obtain⟨O,C,h⟩:=ae h
 refine wF Z4 (f40_c C) Lw Z3 (Rl 3 q (Al z74 q (sS Z6 s74 Z2 (Rll 7 q ?_))))
 apply WL.and 5 (t:=114) (d:=119)
 exact q
 intro P
 exact Rl 3 q (WL.fn q q q q (f33_c) Lw (aG q q q) q q (Rl 1 q (WL.nil ⟨q,[_,_,_,_,_],q,q,q⟩)))
 exact Rn 5 5
 exact Rlx 6 q (FA h)
 refine Jn1 (λj=> [(2, .d (.pc (R33 t0))),(3, .d (.pc (R59 x1))),(13, .d (D.i .u8 x1.op)),(120, .d (D.b j))]) (λ_=> []) h (λ_ h=>?_) (λj h=>?_)
 exact Rcc 6 q (Ci h q (λh=>Rcx 1 q (En1 h)) λh=>Rcx 4 q (En1 h))
 refine Ci h q (λh=>?_) (λh=>?_)
 exact Rcl 6 q (Zq (ab E87 t0.prots e30 q q Zl) q (Rlx 7 q (FA h)))
 refine Rcc 6 q (Ci h q (λh=>?_) λh=>?_)
 refine Rcl 7 q ?_
 obtain⟨Q,E,h⟩:=ae h
 exact wF Z4 (f41_c E) Lw Z3 (Rlx 6 q (FA h))
 refine Rcc 6 q (Ci h q (λh=>?_) λh=>?_)
 refine Rcl 6 q ?_
 obtain⟨F,G,h⟩:=ae h
 refine Gg 7 142 149 F G (λh=>?_) (λh=>?_) ?_
 exact On 7 7 h
 refine Rl 5 q ?_
 obtain⟨R,H,h⟩:=ae h
 exact WL.fn q q q q (f41_c H) Lw (aG q q q) q q (On 1 7 h)
 exact Rlx 6 q (FA h)
 exact Rcx 9 q (FA h)

theorem f5_c{t0:al}{r:Bool}(h:f5 t0=some r):Pu prog 5 [.ag (R33 t0)] (.b r):=by
 unfold f5 at h
 refine fI func5 λ_ _=>?_
 refine Rcl 2 q (Bd q q (Zs _) q (Rll 7 q (Zq (ab E59 t0.insns e22 q q Zl) q (Rll 9 q ?_))))
 refine OG 3 11 14 3 3 ?_
 refine Rl 1 q ?_
 obtain⟨e,f,h⟩:=ae h
 refine Gg 4 15 19 e f (λh=>?_) (λh=>?_) ?_
 exact On 4 4 h
 refine Rl 1 q ?_
 obtain⟨L,g,h⟩:=ae h
 exact WL.fn q q q q (f11_c g) Lw (aG q q q) q q (On 2 4 h)
 refine Rl 1 q ?_
 obtain⟨j,k,h⟩:=ae h
 refine Gg 4 20 24 j k (λh=>?_) (λh=>?_) ?_
 exact On 4 4 h
 refine Rl 1 q ?_
 obtain⟨M,m,h⟩:=ae h
 exact WL.fn q q q q (f12_c m) Lw (aG q q q) q q (On 2 4 h)
 refine Rl 1 q ?_
 obtain⟨p,t,h⟩:=ae h
 refine Gg 4 25 29 p t (λh=>?_) (λh=>?_) ?_
 exact On 4 4 h
 refine Rl 1 q ?_
 obtain⟨N,w,h⟩:=ae h
 exact WL.fn q q q q (f13_c w) Lw (aG q q q) q q (On 2 4 h)
 refine Rl 1 q ?_
 obtain⟨x,y,h⟩:=ae h
 refine Gg 4 30 34 x y (λh=>?_) (λh=>?_) ?_
 exact On 4 4 h
 refine Rl 1 q ?_
 obtain⟨O,A,h⟩:=ae h
 exact WL.fn q q q q (f14_c A) Lw (aG q q q) q q (On 2 4 h)
 refine Rl 1 q ?_
 obtain⟨B,C,h⟩:=ae h
 refine Gg 4 35 39 B C (λh=>?_) (λh=>?_) ?_
 exact On 4 4 h
 refine Rl 1 q ?_
 obtain⟨P,E,h⟩:=ae h
 exact WL.fn q q q q (f15_c E) Lw (aG q q q) q q (On 2 4 h)
 refine Rl 1 q ?_
 obtain⟨F,G,h⟩:=ae h
 refine Gg 4 40 44 F G (λh=>?_) (λh=>?_) ?_
 exact On 4 4 h
 refine Rl 1 q ?_
 obtain⟨Q,H,h⟩:=ae h
 exact WL.fn q q q q (f16_c H) Lw (aG q q q) q q (On 2 4 h)
 refine Rlc 2 q (Ci h q (λh=>Rcx 7 q (FA h)) λh=>?_)
 refine Rcc 2 q (Jn0 [(1, .d (.pc (R33 t0))),(3, .n (List.length t0.insns:Int))] [] h (λI h=>?_) λh=>?_)
 refine Rcc 6 q (Ln1 (λa=> [(1, .d (.pc (R33 t0))),(3, .n (List.length t0.insns:Int)),(4, .n a)]) (λ_=> []) (f5_l1 t0 I) h (λ_ h=>by rw[f5_l1] at h;cases h) λn a h=>?_)
 rw[f5_l1] at h
 refine Rcc 8 q (Ci h q (λh=>?_) λh=>?_)
 refine Rcc 5 q (av kR kR (Rq 4 q ?_))
 obtain⟨R,c,h⟩:=ae h
 refine WQ.qn (ah e22 q Zl q (af c) (an c9 c) q) q (Rq 1 q ?_)
 obtain⟨S,K,h⟩:=ae h
 refine WQ.q (YieldsQ.fn q q q q q (f17_c K) Lw) (Zw q) q q (Rq 1 q (WQ.nil (Rxc 1 q (Ci h q (λh=>?_) λh=>?_))))
 exact Rcx 11 q (FA h)
 exact Rcx 8 q (Fn1 h)
 exact Rcx 4 q (En0 h)
 refine Rcl 6 q (Ix h e22 c9 q Zl q q λT _ h=>(Rll 10 q ?_))
 refine OG 3 67 70 3 3 ?_
 refine Rl 1 q ?_
 refine OG 3 71 74 3 3 ?_
 refine Rl 1 q ?_
 refine OG 3 75 78 3 3 ?_
 exact Rlx 4 q (FA h)

theorem f8_c{a0:aa}:Pu prog 8 [.ag (R42 a0)] (.b (f8 a0)):=by
 generalize h:f8 a0=r
 unfold f8 at h
 refine fI func8 λ_ _=>?_
 exact Rcl 2 q (Bd q q (Zs _) q (Rlx 14 q (FB h)))

theorem f9_c{a0:aa}{b1:aa}:Pu prog 9 [.ag (R42 a0), .ag (R42 b1)] (.b (f9 a0 b1)):=by
 generalize h:f9 a0 b1=r
 unfold f9 at h
 refine fI func9 λ_ _=>?_
 refine Rcl 2 q (Bd q q (Zs _) q (Bd q q (Zs _) q (Rll 6 q (wF Z4 (f8_c) Lw Z3 (Rl 1 q ?_)))))
 apply WL.or 13 (t:=7) (d:=20)
 exact q
 intro a
 refine Rl 6 q ?_
 refine AG 6 13 19 6 6 ?_
 exact Rn 1 8
 exact Rn 13 13
 exact Rlx 4 q (FB h)

theorem f27_c{a:Int}{c:Int}:Pu prog 27 [.i .i64 a, .i .i64 c] (.ag (R42 (f27 a c))):=by
 generalize h:f27 a c=r
 unfold f27 at h
 refine fI func27 λ_ _=>?_
 refine Rcl 2 q (Al z42 q (Rll 6 q (Zq (ac p42 z42 q q) q (sS Z6 s42 Z2 (Rlx 3 q ?_)))))
 subst h
 exact am (rs1 q (aZ q q a42 s42 q)) (ak (Zs _))

theorem f28_c{v0:Int}:Pu prog 28 [.i .i64 v0] (.ag (R42 (f28 v0))):=by
 generalize h:f28 v0=r
 unfold f28 at h
 refine fI func28 λ_ _=>?_
 refine Rcl 2 q (Al z42 q (Rll 6 q (Zq (ac p42 z42 q q) q (sS Z6 s42 Z2 (Rlx 3 q ?_)))))
 subst h
 exact am (rs1 q (aZ q q a42 s42 q)) (ak (Zs _))

theorem f101_c:Pu prog 101 [] (.ag (R42 (f101 ))):=by
 generalize h:f101=r
 unfold f101 at h
 refine fI func101 λ_ _=>?_
 refine Rcl 2 q (Al z42 q (Rll 4 q (Zq (ac p42 z42 q q) q (sS Z6 s42 Z2 (Rlx 3 q ?_)))))
 subst h
 exact am (rs1 q (aZ q q a42 s42 q)) (ak (Zs _))

theorem f61_c{a0:aa}:Pu prog 61 [.ag (R42 a0)] (.ag (R42 (f61 a0))):=by
 generalize h:f61 a0=r
 unfold f61 at h
 refine fI func61 λ_ _=>?_
 refine Rcl 2 q (Bd q q (Zs _) q (Al z42 q (Rll 6 q (wF Z4 (f8_c) Lw Z3 (Rlc 2 q (Ci h q (λh=>?_) λh=>?_))))))
 refine Rcl 2 q (WL.fn q q q q (f101_c) Zt (Zw q) q q (sS Z6 s42 Z2 (Rlx 4 q ?_)))
 subst h
 exact am (rs1 q (aZ q q a42 s42 q)) (ak (Zs _))
 refine Rcl 5 q (sS Z6 s42 Z2 (Rlx 3 q ?_))
 subst h
 exact am (rs1 q (aZ q q a42 s42 q)) (ak (Zs _))

theorem f29_c(a0:aa)(b1:aa):Pu prog 29 [.ag (R42 a0), .ag (R42 b1)] (.ag (R42 (f29 a0 b1))):=by
 generalize h:f29 a0 b1=r
 unfold f29 at h
 refine fI func29 λ_ _=>?_
 refine Rcl 2 q (Bd q q (Zs _) q (Bd q q (Zs _) q (Al z42 q (Rll 6 q (wF Z4 (f8_c) Lw Z3 (Rlc 2 q (Ci h q (λh=>?_) λh=>?_)))))))
 refine Rcl 3 q (wF Z4 (f61_c) Lw Z3 (sS Z6 s42 Z2 (Rlx 4 q ?_)))
 subst h
 exact am (rs1 q (aZ q q a42 s42 q)) (ak (Zs _))
 refine Rcl 6 q (wF Z4 (f8_c) Lw Z3 (Rlc 2 q (Ci h q (λh=>?_) λh=>?_)))
 refine Rcl 3 q (sS Z6 s42 Z2 (Rlx 4 q ?_))
 subst h
 exact am (rs1 q (aZ q q a42 s42 q)) (ak (Zs _))
 refine Rcl 8 q (Zq (gG q q q) q (Rl 4 q (Zq (eU q q q) q (Zq (ac p42 z42 q q) q (sS Z6 s42 Z2 (Rlx 3 q ?_))))))
 subst h
 exact am (rs1 q (aZ q q a42 s42 q)) (ak (Zs _))

theorem f10_c{o0:Obj}{r:aa}(h:f10 o0=some r):Pu prog 10 [.ag (R53 o0)] (.ag (R42 r)):=by
 unfold f10 at h
 refine fI func10 λ_ _=>?_
 refine Rcl 2 q (Bd q q (Zs _) q (Al z42 q (Rlc 10 q (Ci h q (λh=>?_) λh=>?_))))
 refine Rcl 6 q (wF Z4 (f27_c) Lw Z3 (sS Z6 s42 Z2 (Rlx 4 q ?_)))
 obtain rfl:=Oi h
 exact am (rs1 q (aZ q q a42 s42 q)) (ak (Zs _))
 refine Rcl 4 q (wF Z4 (f28_c) Lw Z3 (Al z42 q (sS Z6 s42 Z2 (Rlc 2 q (Jn2 (λ_ _=> [(2, .pt 0 0),(3, .pt 1 0)]) (λc10v33 c11v34=> [.row 42 [.n 0, .n 0], .row 42 [.n c10v33, .n c11v34]]) h (λf h=>?_) λc10v33 c11v34 h=>?_)))))
 refine Rcc 6 q (Ln3 (λa _ _=> [(1, .d (.pc (R53 o0))),(2, .pt 0 0),(3, .pt 1 0),(4, .n a)]) (λ_ c10v40 c11v41=> [.row 42 [.n 0, .n 0], .row 42 [.n c10v40, .n c11v41]]) (f10_l1 o0 f) h (λ_ _ _ h=>by rw[f10_l1] at h;cases h) λn a c10v40 c11v41 h=>?_)
 rw[f10_l1] at h
 refine Rcl 6 q (Zq (ab E3 o0.set_ e51 q q Zl) q (Rlc 3 q (Ci h q (λh=>?_) λh=>?_)))
 refine Rcc 4 q ?_
 obtain⟨c,e,h⟩:=ae h
 apply RT [_,_,_,_,_,_,_,_,_, .u] [9] [[.row 42 [.n 0, .n 0], .row 42 [.n ((f29 (aa.mk c10v40 c11v41) (f28 (IntKind.i64.wrap (c+1)))).lo), .n ((f29 (aa.mk c10v40 c11v41) (f28 (IntKind.i64.wrap (c+1)))).hi)]]] [p01 3,p01 1,p10 1,p01 4,p20 2 3,p10 4,p10 5,p10 6,p20 0 7,p11 8 3] kR kR q q
 refine Y4 ?_
 refine zo (λ_=>Zq (ah e51 q Zl q (af e) (an du e) q) q (Zd q q q)) ?_
 refine Y2 ?_
 refine zo (λ_=>wF Z4 (f28_c) Lw Z3 (Zd q q q)) ?_
 refine zo (λ_=>wF Z4 (f29_c (aa.mk c10v40 c11v41) _) ⟨(ak (Zs _)),Zl,Zt⟩ Z3 (Zd q q q)) ?_
 exact zo (λ_=>sS Z6 s42 Z2 (aJ q q)) Zt
 exact Rxx 7 q (Fn3 h)
 exact Rcx 4 q (En2 h)
 refine Rcl 3 q (sS Z6 s42 Z2 (Rlx 3 q ?_))
 obtain rfl:=Oi h
 exact am (rs1 q (aZ q q a42 s42 q)) (ak (Zs _))

end Go.Proofs.YtkbpoeellidgeaaGreatDoor
