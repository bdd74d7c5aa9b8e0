/- The walks of functions that this law reaches. -/
import Derived.Test.YtlkhnkpflmpjhaaGreatDoorH
set_option linter.unusedVariables false
set_option linter.unusedSimpArgs false
set_option linter.unusedSectionVars false
set_option linter.unnecessarySimpa false
set_option maxHeartbeats 4000000
set_option maxRecDepth 100000
namespace Go.Proofs.YtlkhnkpflmpjhaaGreatDoor
open Tryz
open Go Go.Sk

theorem f6_c{a:lI}{a1:Int}{r:Int}(h:f6 a a1=some r):Pu prog 6 [.sl (List.map E3 a), .i .i64 a1] (.i .i64 r):=by
 unfold f6 at h
 refine fI func6 λ_ _=>?_
 refine Rcl 7 q (WL.s ((dY (α:=Bool) (λx:Int=>Value.int .i64 x) (λx:Bool=>AV.d (.b x))).does) (Zw q) q q (Rlc 3 q (Jn1 (λ_=> [(1, .n a1),(5, .mp 0)]) (λc=> [mpO (λx:Int=>Value.int .i64 x) (λx:Bool=>AV.d (.b x)) c]) h (λj h=>?_) λc h=>?_)))
 refine Rcl 3 q (Zq (aa E3 a e22 q q Zl) q (Rlc 4 q (Ln2 (λe _=> [(1, .n a1),(5, .mp 0),(9, .l E3 a),(10, .n (List.length a:Int)),(11, .n e)]) (λ_ f=> [mpO (λx:Int=>Value.int .i64 x) (λx:Bool=>AV.d (.b x)) f]) (f6_l1 a a1 j) h (λ_ _ h=>by rw[f6_l1] at h;cases h) λn e f h=>?_)))
 rw[f6_l1] at h
 refine Rcc 6 q (Ci h q (λh=>?_) λh=>?_)
 refine Rcc 2 q (Jn1 (λ_=> [(1, .n a1),(5, .mp 0),(9, .l E3 a),(10, .n (List.length a:Int)),(11, .n e)]) (λg=> [mpO (λx:Int=>Value.int .i64 x) (λx:Bool=>AV.d (.b x)) g]) h (λ_ h=>?_) λg h=>?_)
 refine Rcl 3 q (Ix h e22 dN q Zl q q λk _ h=>(Rlc 11 q (Ci h q (λh=>?_) λh=>?_)))
 exact Rcl 3 q (WL.s0 (dH (λx:Int=>Value.int .i64 x) (λx:Bool=>AV.d (.b x)) f (.inr q) underlying48 underlying3 (KeyF.int .i64) q q q q) (Zw q) q (Rlx 2 q (En1 h)))
 exact Rcx 2 q (En1 h)
 exact Rcx 4 q (Fn2 h)
 exact Rcx 4 q (En1 h)
 exact Rcl 4 q (Zq (mM (λx:Int=>Value.int .i64 x) (λx:Bool=>AV.d (.b x)) c underlying48 q q q) q (Rlx 5 q (FA h)))

theorem f7_c{a:lI}{a1:Int}{r:Int}(h:f7 a a1=some r):Pu prog 7 [.sl (List.map E3 a), .i .i64 a1] (.i .i64 r):=by
 unfold f7 at h
 refine fI func7 λ_ _=>?_
 refine Rcc 10 q (Jn1 (λg=> [(1, .n a1),(5, .n g)]) (λ_=> []) h (λy h=>?_) λg h=>?_)
 refine Rcc 6 q (Ln2 (λe c=> [(0, .l E3 a),(1, .n a1),(5, .n e),(6, .n c)]) (λ_ _=> []) (f7_l1 a a1 y) h (λ_ _ h=>by rw[f7_l1] at h;cases h) λn e c h=>?_)
 rw[f7_l1] at h
 refine Rcl 5 q (Zq (aa E3 a e22 q q Zl) q (Rlc 3 q (Ci h q (λh=>?_) λh=>?_)))
 refine Rcc 2 q (Jn1 (λj=> [(0, .l E3 a),(1, .n a1),(5, .n j),(6, .n c)]) (λ_=> []) h (λ_ h=>?_) λj h=>?_)
 refine Rcc 6 q (Jn1 (λk=> [(0, .l E3 a),(1, .n a1),(5, .n e),(6, .n c),(7, .d (D.b k))]) (λ_=> []) h (λA h=>?_) λk h=>?_)
 refine Rcc 6 q (Ln2 (λm o=> [(0, .l E3 a),(1, .n a1),(5, .n e),(6, .n c),(7, .d (D.b m)),(8, .n o)]) (λ_ _=> []) (f7_l2 a c A) h (λ_ _ h=>by rw[f7_l2] at h;cases h) λna m o h=>?_)
 rw[f7_l2] at h
 refine Rcc 8 q (Ci h q (λh=>?_) λh=>?_)
 refine Rcc 4 q (br kR kR (Rq 2 q ?_))
 obtain⟨B,p,h⟩:=ac h
 apply WQ.grp 10 (t:=21) (d:=31) (z:=B)
 exact q
 intro f
 have h:=gc p f
 refine Rq 10 q ?_
 obtain rfl:=Oi h
 exact WQ.nil ⟨[_,_,_,_,_,_,_,_,_,_],q,q,q⟩
 intro f
 have h:=gd p f
 refine Rq 2 q ?_
 obtain⟨C,w,h⟩:=ac h
 refine WQ.qy (az e22 q Zl q (aq w) (aV dN w) q) q q q (Rq 3 q ?_)
 obtain⟨E,x,h⟩:=ac h
 refine WQ.qy (az e22 q Zl q (aq x) (aV dN x) q) q q q (Rq 3 q ?_)
 obtain rfl:=Oi h
 exact WQ.nil ⟨[_,_,_,_,_,_,_,_,_,_],q,q,q⟩
 exact Rq 1 q (WQ.nil (Rxx 7 q (Fn2 h)))
 exact Rcx 4 q (En1 h)
 refine Rcl 4 q (Ix h e22 dN q Zl q q λF _ h=>(Rl 4 q ?_))
 refine AG 3 38 41 3 3 ?_
 exact Rlc 2 q (Ci h q (λh=>Rcx 6 q (En1 h)) λh=>Rcx 2 q (En1 h))
 exact Rcx 5 q (Fn2 h)
 exact Rcx 4 q (En1 h)
 exact Rcx 9 q (FA h)

theorem f8_c{a0:lI}{b1:lI}{r:Bool}(h:f8 a0 b1=some r):Pu prog 8 [.sl (List.map E3 a0), .sl (List.map E3 b1)] (.b r):=by
 unfold f8 at h
 refine fI func8 λ_ _=>?_
 refine Rcl 9 q (Zq (aa E3 a0 e22 q q Zl) q (Rl 1 q (Zq (aa E3 b1 e22 q q Zl) q (Rlc 3 q (Ci h q (λh=>?_) λh=>?_)))))
 exact Rcx 7 q (FA h)
 refine Rcc 2 q (Jn0 [] [] h (λe h=>?_) λh=>?_)
 refine Rcc 6 q (Ln1 (λa=> [(0, .l E3 a0),(1, .l E3 b1),(5, .n a)]) (λ_=> []) (f8_l1 a0 b1 e) h (λ_ h=>by rw[f8_l1] at h;cases h) λn a h=>?_)
 rw[f8_l1] at h
 refine Rcl 5 q (Zq (aa E3 a0 e22 q q Zl) q (Rlc 3 q (Ci h q (λh=>?_) λh=>?_)))
 refine Rcc 5 q (br kR kR (Rq 2 q ?_))
 obtain⟨f,c,h⟩:=ac h
 refine WQ.qn (az e22 q Zl q (aq c) (aV dN c) q) q (Rq 3 q ?_)
 obtain⟨g,d,h⟩:=ac h
 refine WQ.qn (az e22 q Zl q (aq d) (aV dN d) q) q (Rq 2 q (WQ.nil (Rxc 1 q (Ci h q (λh=>?_) λh=>?_))))
 exact Rcx 11 q (FA h)
 exact Rcx 8 q (Fn1 h)
 exact Rcx 4 q (En0 h)
 exact Rcx 6 q (FA h)

theorem f5_c{r:Bool}(h:f5=some r):Pu prog 5 [] (.v (.bool r)):=by obtain rfl:=inS h;exact qh

theorem f3_c(a:lI)(a1:Int){r:Bool}(h:f3 a a1=some r):Pu prog 3 [.sl (List.map E3 a), .i .i64 a1] (.b r):=by
 unfold f3 at h
 refine fI func3 λ_ _=>?_
 refine Rcl 9 q (Zq (aa E3 a e22 q q Zl) q (Rlc 3 q (Ci h q (λh=>?_) λh=>?_)))
 refine Rcl 2 q ?_
 obtain⟨t,c,h⟩:=ac h
 exact WL.fn q q q q (f5_c c) Zt (Zw q) q q (Rlx 5 q (FA h))
 refine Rcl 4 q (WL.s ((kF l22).does) (Zw q) q q (Rl 1 q ?_))
 replace h:=gt h
 obtain⟨d,h⟩:=h
 refine WL.s ((lq ([]:lI) a dN l22 z3 q dC q q q (nm Zl dN λ_=>q) (λ_=>q) d).does) (Zw q) q q (Rll 7 q ?_)
 obtain⟨w,e,h⟩:=ac h
 refine wF Z4 (f6_c e) Lw Z3 (Rl 2 q ?_)
 obtain⟨x,f,h⟩:=ac h
 refine wF Z4 (f7_c f) Lw Z3 (Rl 2 q ?_)
 obtain⟨g,j,h⟩:=ac h
 refine Gg 4 20 24 g j (λh=>?_) (λh=>?_) ?_
 refine Rl 2 q ?_
 obtain⟨y,k,h⟩:=ac h
 exact WL.fn q q q q (f8_c k) Lw (aP q q q) q q (On 1 4 h)
 exact On 4 4 h
 refine Rl 1 q ?_
 obtain⟨m,o,h⟩:=ac h
 refine Gg 2 25 27 m o (λh=>?_) (λh=>?_) ?_
 obtain⟨A,p,h⟩:=ac h
 exact WL.fn q q q q (f5_c p) Zt (aP q q q) q q (On 1 2 h)
 exact On 2 2 h
 exact Rlx 4 q (FA h)

end Go.Proofs.YtlkhnkpflmpjhaaGreatDoor
