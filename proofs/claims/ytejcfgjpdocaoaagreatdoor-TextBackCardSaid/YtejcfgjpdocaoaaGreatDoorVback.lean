/- The walks of functions that this law reaches. -/
import Derived.Test.YtejcfgjpdocaoaaGreatDoorWr
import Derived.Test.YtejcfgjpdocaoaaGreatDoorWcc
import Derived.Test.YtejcfgjpdocaoaaGreatDoorH
set_option linter.all false
set_option maxHeartbeats 4000000
set_option maxRecDepth 100000
namespace Go.Proofs.YtejcfgjpdocaoaaGreatDoor
open Go.Proofs.Tryz
open Go Go.Sk

theorem f9_c{r:Bool}(h:f9=some r):Pu prog 9 [] (.v (.bool r)):=by obtain rfl:=inS h;exact vE

theorem f6_c(t0:aC)(b1:lI){r:Bool}(h:f6 t0 b1=some r):Pu prog 6 [.ag (R33 t0), .sl (List.map E5 b1)] (.b r):=by
 unfold f6 at h;refine fI func6 λ_ _=>?_;refine Rcl 2 q (Bd q q (Zs _) q (Rll 7 q ?_));obtain⟨V,a,h⟩:=ab h;refine wF Z4 (f8_c a) Lw Z3 (Rl 1 q ?_);apply WL.or 4 (t:=15) (d:=19);exact q;intro W;exact Rl 1 q (Zy (ac E5 b1 e42 q q Zl) q q q (Rl 2 q (WL.nil ⟨q,[_,_,_,_],q,q,q⟩)));exact Rn 4 4;refine Rlc 2 q (Ci h q (λh=>?_) λh=>?_);refine Rcl 2 q ?_;obtain⟨X,c,h⟩:=ab h;exact WL.fn q q q q (f9_c c) Zt (Zw q) q q (Rlx 5 q (FA h));refine Rcl 5 q ?_;obtain⟨Y,e,h⟩:=ab h;refine wF Z4 (f20_c e) Lw Z3 (Rll 10 q ?_);obtain⟨Z,f,h⟩:=ab h;refine wF Z4 (f17_c f) Lw Z3 (Rl 3 q (Al z33 q (sS Z6 s33 Z2 (St q (Rll 7 q ?_)))));obtain⟨ad,g,h⟩:=ab h;refine wF Z4 (f10_c _ g) Lw Z3 (Rl 2 q (Zq (y_neb underlying4 q q) q (Rl 1 q ?_)));obtain⟨j,k,h⟩:=ab h;refine Gg 13 36 49 j k (λh=>?_) (λh=>?_) ?_;exact On 13 13 h;refine Rl 3 q ?_;obtain⟨m,p,h⟩:=ab h;refine Gg 9 39 48 m p (λh=>?_) (λh=>?_) ?_;refine Rl 3 q ?_;obtain⟨w,x,h⟩:=ab h;refine Gg 5 42 47 w x (λh=>?_) (λh=>?_) ?_;exact On 5 5 h;refine Rl 2 q ?_;obtain⟨al,y,h⟩:=ab h;exact WL.fn q q q q (f19_c y) ⟨Zl,(bC (Zs _)),Zt⟩ (ce q q q) q q (On 2 5 h);exact On 1 5 h;exact On 9 9 h;exact On 1 5 h;refine Rlc 2 q (Ci h q (λh=>Rcx 7 q (FA h)) λh=>?_);refine Rcl 5 q ?_;obtain⟨a0,A,h⟩:=ab h;refine wF Z4 (f17_c A) Lw Z3 (Rl 3 q (Al z33 q (sS Z6 s33 Z2 (St q (Rlc 10 q (Ci h q (λh=>?_) λh=>?_))))));refine Rcl 5 q ?_;obtain⟨B,C,h⟩:=ab h;refine Gg 4 59 63 B C (λh=>?_) (λh=>?_) ?_;refine Rl 1 q (Zy (cE p33 z33 q q) q q q ?_);obtain⟨a1,E,h⟩:=ab h;exact WL.fn q q q q (f19_c E) ⟨(bC (Zs _)),(bC ⟨Le.nil,Le.nil,Le.nil,Le.nil,Le.nil,Le.nil,Le.nil,Zl,Le.nil,Le.nil,Le.nil,Zt⟩),Zt⟩ (ce q q q) q q (On 1 4 h);exact On 4 4 h;refine Rl 1 q ?_;obtain⟨F,G,h⟩:=ab h;refine Gg 2 64 66 F G (λh=>?_) (λh=>?_) ?_;obtain⟨a6,H,h⟩:=ab h;exact WL.fn q q q q (f9_c H) Zt (ce q q q) q q (On 1 2 h);exact On 2 2 h;exact Rlx 5 q (FA h);refine Rcl 5 q ?_;obtain⟨I,J,h⟩:=ab h;refine wF Z4 (f20_c J) ⟨(bC (Zs _)),Zt⟩ Z3 (Rll 12 q ?_);obtain⟨K,M,h⟩:=ab h;refine Gg 6 74 80 K M (λh=>?_) (λh=>?_) ?_;refine Rl 1 q ?_;replace h:=aQ h;obtain⟨N,h⟩:=h;refine Zy (mB (L:=I.1) underlying42 underlying5 underlying9 q Zl (λ_=>q) N) q q q (Rl 1 q ?_);replace h:=aQ h;obtain⟨O,h⟩:=h;exact Zy (mB (L:=b1) underlying42 underlying5 underlying9 q Zl (λ_=>q) O) q q q (On 2 6 h);exact On 6 6 h;refine Rl 1 q ?_;obtain⟨P,Q,h⟩:=ab h;refine Gg 3 81 84 P Q (λh=>?_) (λh=>?_) ?_;refine Rl 1 q ?_;obtain⟨a7,R,h⟩:=ab h;exact WL.fn q q q q (f10_c _ R) ⟨(bC (Zs _)),Zt⟩ (ce q q q) q q (On 1 3 h);exact On 3 3 h;refine Rl 1 q ?_;obtain⟨S,T,h⟩:=ab h;refine Gg 2 85 87 S T (λh=>?_) (λh=>?_) ?_;obtain⟨a',U,h⟩:=ab h;exact WL.fn q q q q (f9_c U) Zt (ce q q q) q q (On 1 2 h);exact On 2 2 h;exact Rlx 4 q (FA h)

end Go.Proofs.YtejcfgjpdocaoaaGreatDoor
