/- The walks of functions that this law reaches. -/
import Derived.Test.YtpodhdopgcedlaaGreatDoorH
set_option linter.unusedVariables false
set_option linter.unusedSimpArgs false
set_option linter.unusedSectionVars false
set_option linter.unnecessarySimpa false
set_option maxHeartbeats 4000000
set_option maxRecDepth 100000
namespace Go.Proofs.YtpodhdopgcedlaaGreatDoor
open Go.Proofs.Tryz
open Go Go.Sk

theorem f9_c{r:Bool}(h:f9=some r):Pu prog 9 [] (.v (.bool r)):=by obtain rfl:=inS h;exact ve

theorem f4_c(b0:List ac)(h1:Int){r:Bool}(h:f4 b0 h1=some r):Pu prog 4 [.sl (List.map E55 b0), .i .i64 h1] (.b r):=by
 unfold f4 at h
 refine fI func4 λ_ _=>?_
 refine Rcl 9 q ?_
 obtain⟨N,k,h⟩:=ae h
 refine wF Z4 (f16_c k) Lw Z3 (Rlc 2 q (Ci h q (λh=>?_) λh=>?_))
 refine Rcl 2 q ?_
 obtain⟨O,m,h⟩:=ae h
 exact WL.fn q q q q (f9_c m) Zt (Zw q) q q (Rlx 5 q (FA h))
 refine Rcl 5 q ?_
 obtain⟨a,o,h⟩:=ae h
 refine wF Z4 (f17_c _ o) Lw Z3 (Rl 1 q ?_)
 obtain⟨c,p,h⟩:=ae h
 refine wF Z4 (f18_c p) Lw Z3 (Rll 8 q (Zq (ab E50 a e48 q q Zl) q (Rl 1 q (Zq (ab E50 c e48 q q Zl) q (Rlc 3 q (Ci h q (λh=>?_) λh=>?_))))))
 exact Rcx 7 q (FA h)
 refine Rcc 2 q (Jn0 [(0, .l E55 b0),(1, .n h1)] [] h (λt h=>?_) λh=>?_)
 refine Rcc 6 q (Ln1 (λd=> [(0, .l E55 b0),(1, .n h1),(5, .l E50 a),(6, .l E50 c),(7, .n d)]) (λ_=> []) (f4_l1 a c t) h (λ_ h=>by rw[f4_l1] at h;cases h) λn d h=>?_)
 rw[f4_l1] at h
 refine Rcl 5 q (Zq (ab E50 a e48 q q Zl) q (Rlc 3 q (Ci h q (λh=>?_) λh=>?_)))
 refine Rcc 5 q (bl kR kR (Rq 2 q ?_))
 obtain⟨e,f,h⟩:=ae h
 refine WQ.qn (aj e48 q Zl q (ah f) (aD fq f) q) q (Rq 3 q ?_)
 obtain⟨g,j,h⟩:=ae h
 refine WQ.qn (aj e48 q Zl q (ah j) (aD fq j) q) q (Rq 1 q (WQ.qn (rZ (xs:=[.int .i64 e.e0, .int .i64 e.e1]) (ys:=[.int .i64 g.e0, .int .i64 g.e1]) q50 q Zl q Zl q q q) q (WQ.nil (Rxc 1 q (Ci h q (λh=>?_) λh=>?_)))))
 exact Rcx 11 q (FA h)
 exact Rcx 8 q (Fn1 h)
 exact Rcx 4 q (En0 h)
 refine Rcl 3 q ?_
 obtain⟨P,w,h⟩:=ae h
 refine wF Z4 (f19_c _ w) Lw Z3 (Rl 1 q ?_)
 obtain⟨Q,x,h⟩:=ae h
 refine wF Z4 (f20_c x) Lw Z3 ?_
 obtain⟨S,y,h⟩:=ae h
 refine wF Z4 (f12_c y) Lw Z3 (Rl 1 q ?_)
 obtain⟨A,B,h⟩:=ae h
 refine Gg 8 40 48 A B (λh=>?_) (λh=>?_) ?_
 refine Rl 2 q ?_
 obtain⟨T,C,h⟩:=ae h
 refine WL.fn q q q q (f21_c _ _ C) Lw (aU q q q) q q (Rl 2 q ?_)
 obtain⟨U,E,h⟩:=ae h
 refine WL.fn q q q q (f22_c E) Lw (aU q q q) q q ?_
 obtain⟨V,F,h⟩:=ae h
 exact WL.fn q q q q (f12_c F) Lw (aU q q q) q q (On 1 8 h)
 exact On 8 8 h
 refine Rl 1 q ?_
 obtain⟨G,H,h⟩:=ae h
 refine Gg 6 49 55 G H (λh=>?_) (λh=>?_) ?_
 refine Rl 1 q ?_
 obtain⟨W,I,h⟩:=ae h
 refine WL.fn q q q q (f23_c _ I) Lw (aU q q q) q q (Rl 1 q ?_)
 obtain⟨X,J,h⟩:=ae h
 exact WL.fn q q q q (f24_c J) Lw (aU q q q) q q (Zy (vV underlying4 q q) q q q (On 1 6 h))
 exact On 6 6 h
 refine Rl 1 q ?_
 obtain⟨K,L,h⟩:=ae h
 refine Gg 2 56 58 K L (λh=>?_) (λh=>?_) ?_
 obtain⟨Y,M,h⟩:=ae h
 exact WL.fn q q q q (f9_c M) Zt (aU q q q) q q (On 1 2 h)
 exact On 2 2 h
 exact Rlx 4 q (FA h)

end Go.Proofs.YtpodhdopgcedlaaGreatDoor
