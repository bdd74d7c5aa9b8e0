/- The walks of functions that this law reaches. -/
import Derived.Test.YtejcfgjpdocaoaaGreatDoorWq
import Derived.Test.YtejcfgjpdocaoaaGreatDoorH
set_option linter.all false
set_option maxHeartbeats 4000000
set_option maxRecDepth 100000
namespace Go.Proofs.YtejcfgjpdocaoaaGreatDoor
open Go.Proofs.Tryz
open Go Go.Sk

theorem f9_c{r:Bool}(h:f9=some r):Pu prog 9 [] (.v (.bool r)):=by obtain rfl:=inS h;exact vL

theorem f5_c(b0:lI){r:Bool}(h:f5 b0=some r):Pu prog 5 [.sl (List.map E5 b0)] (.b r):=by
 unfold f5 at h;refine fI func5 λ_ _=>?_;refine Rcl 9 q (Zq (ac E5 b0 e42 q q Zl) q (Rlc 3 q (Ci h q (λh=>?_) λh=>?_)));refine Rcl 2 q ?_;obtain⟨m,a,h⟩:=ab h;exact WL.fn q q q q (f9_c a) Zt (Zw q) q q (Rlx 5 q (FA h));refine Rcl 4 q (WL.s ((o9 l42).does) (Zw q) q q (Rl 1 q ?_));replace h:=aK h;obtain⟨c,h⟩:=h;refine WL.s ((qe ([]:lI) b0 lJ l42 z5 q dC q q q (cK Zl lJ λ_=>q) (λ_=>q) c).does) (Zw q) q q ?_;obtain⟨o,d,h⟩:=ab h;refine wF Z4 (f17_c d) Lw Z3 (Rl 3 q (Al z33 q (sS Z6 s33 Z2 (St q (Rll 6 q ?_)))));obtain⟨p,e,h⟩:=ab h;refine wF Z4 (f18_c e) Lw Z3 (Rl 3 q (Al z33 q (sS Z6 s33 Z2 (St q (Rll 7 q ?_)))));obtain⟨t,f,h⟩:=ab h;refine wF Z4 (f19_c f) ⟨(bl (Zs _)),(bl (Zs _)),Zt⟩ Z3 (Rl 1 q ?_);refine AG 4 26 30 4 4 ?_;refine Rl 1 q ?_;obtain⟨g,j,h⟩:=ab h;refine Gg 2 31 33 g j (λh=>?_) (λh=>?_) ?_;obtain⟨w,k,h⟩:=ab h;exact WL.fn q q q q (f9_c k) Zt (bz q q q) q q (On 1 2 h);exact On 2 2 h;exact Rlx 4 q (FA h)

end Go.Proofs.YtejcfgjpdocaoaaGreatDoor
