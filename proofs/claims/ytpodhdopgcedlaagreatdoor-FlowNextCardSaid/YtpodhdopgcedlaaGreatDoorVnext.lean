/- The walks of functions that this law reaches. -/
import Derived.Test.YtpodhdopgcedlaaGreatDoorH
set_option linter.unusedVariables false
set_option linter.unusedSimpArgs false
set_option linter.unusedSectionVars false
set_option linter.unnecessarySimpa false
set_option maxHeartbeats 4000000
set_option maxRecDepth 100000
namespace Go.Proofs.YtpodhdopgcedlaaGreatDoor
open Go.Proofs.Tryz
open Go Go.Sk

theorem f9_c{r:Bool}(h:f9=some r):Pu prog 9 [] (.v (.bool r)):=by obtain rfl:=inS h;exact xb

theorem f3_c(t0:ah)(at1:Int){r:Bool}(h:f3 t0 at1=some r):Pu prog 3 [.ag (R33 t0), .i .i64 at1] (.b r):=by
 unfold f3 at h
 refine fI func3 λ_ _=>?_
 refine Rcl 2 q (Go.Sk.Bd q q (Zs _) q (Rll 7 q (wF Z4 (f8_c) Lw Z3 (Rlc 2 q (Ci h q (λh=>?_) λh=>?_)))))
 refine Rcl 2 q ?_
 obtain⟨E,p,h⟩:=ae h
 exact WL.fn q q q q (f9_c p) Zt (Zw q) q q (Rlx 5 q (FA h))
 refine Rcl 6 q ?_
 obtain⟨t,w,h⟩:=ae h
 refine wF Z4 (f10_c w) Lw Z3 (Rll 11 q ?_)
 obtain⟨x,y,h⟩:=ae h
 refine wF Z4 (f11_c y) Lw Z3 (Rlc 7 q (Jn1 (λm=> [(4, .d (D.b m))]) (λ_=> []) h (λ_ h=>?_) λm h=>?_))
 obtain⟨F,f,h⟩:=ae h
 obtain⟨G,g,h⟩:=ae h
 obtain⟨A,j,h⟩:=ae h
 rcases iq A with a|a
 replace h:=dm h a
 obtain⟨B,k,h⟩:=ae h
 rcases iq B with c|c
 replace h:=dm h c
 rcases iq (decide (t.2=x.2)) with e|e
 replace h:=dm h e
 obtain⟨H,C,h⟩:=ae h
 apply RT [_,_,_,_,_,_,_,_,_,_,_,_,_,_,_,_,_,_,_,_,_] [] [] [p01 2,p01 1,p20 0 1,p01 2,p01 1,p20 3 4,p20 2 5,p10 6,p11 7 5,p11 7 7,p30 8 9 7,p20 7 10,p10 11,p11 12 6,p11 12 8,p30 13 14 12,p20 12 15,p10 16,p10 17,p20 17 18,p10 19] kR kR q q
 refine Y2 ?_
 refine zo (λ_=>wF Z4 (f13_c f) Lw Z3 (Zd q q q)) ?_
 refine Y2 ?_
 refine zo (λ_=>wF Z4 (f14_c g) Lw Z3 (Zd q q q)) ?_
 refine zo (λ_=>wF Z4 (f12_c j) Lw Z3 (Zd q q q)) ?_
 refine zo (rc a) ?_
 refine Y2 ?_
 refine zo (λ_=>WL.fn q q q q (f15_c k) Lw (Wt.yes q q q) q q (Zd q q q)) ?_
 refine Y1 ?_
 refine zo (rc c) ?_
 refine Y4 ?_
 refine zo (rc e) ?_
 refine zo (λ_=>WL.fn q q q q (f9_c C) Zt (Wt.yes q q q) q q (Zd q q q)) ?_
 exact Y2 Zt
 exact En1 h
 replace h:=dn h e
 apply RT [_,_,_,_,_,_,_,_,_,_,_,_,_,_,_,_,_,_,_,_,_] [] [] [p01 2,p01 1,p20 0 1,p01 2,p01 1,p20 3 4,p20 2 5,p10 6,p11 7 5,p11 7 7,p30 8 9 7,p20 7 10,p10 11,p11 12 6,p11 12 8,p30 13 14 12,p20 12 15,p10 16,p10 17,p20 17 18,p10 19] kR kR q q
 refine Y2 ?_
 refine zo (λ_=>wF Z4 (f13_c f) Lw Z3 (Zd q q q)) ?_
 refine Y2 ?_
 refine zo (λ_=>wF Z4 (f14_c g) Lw Z3 (Zd q q q)) ?_
 refine zo (λ_=>wF Z4 (f12_c j) Lw Z3 (Zd q q q)) ?_
 refine zo (rc a) ?_
 refine Y2 ?_
 refine zo (λ_=>WL.fn q q q q (f15_c k) Lw (Wt.yes q q q) q q (Zd q q q)) ?_
 refine Y1 ?_
 refine zo (rc c) ?_
 refine Y4 ?_
 refine zo (rc e) ?_
 exact Y3 Zt
 exact En1 h
 replace h:=dn h c
 apply RT [_,_,_,_,_,_,_,_,_,_,_,_,_,_,_,_,_,_,_,_,_] [] [] [p01 2,p01 1,p20 0 1,p01 2,p01 1,p20 3 4,p20 2 5,p10 6,p11 7 5,p11 7 7,p30 8 9 7,p20 7 10,p10 11,p10 12,p10 12,p10 12,p20 12 15,p10 16,p10 17,p20 17 18,p10 19] kR kR q q
 refine Y2 ?_
 refine zo (λ_=>wF Z4 (f13_c f) Lw Z3 (Zd q q q)) ?_
 refine Y2 ?_
 refine zo (λ_=>wF Z4 (f14_c g) Lw Z3 (Zd q q q)) ?_
 refine zo (λ_=>wF Z4 (f12_c j) Lw Z3 (Zd q q q)) ?_
 refine zo (rc a) ?_
 refine Y2 ?_
 refine zo (λ_=>WL.fn q q q q (f15_c k) Lw (Wt.yes q q q) q q (Zd q q q)) ?_
 refine Y1 ?_
 refine zo (rc c) ?_
 exact Y8 Zt
 exact En1 h
 replace h:=dn h a
 apply RT [_,_,_,_,_,_,_,_,_,_,_,_,_,_,_,_,_,_,_,_,_] [] [] [p01 2,p01 1,p20 0 1,p01 2,p01 1,p20 3 4,p20 2 5,p10 6,p10 7,p10 7,p10 7,p20 7 10,p10 11,p10 12,p10 12,p10 12,p20 12 15,p10 16,p10 17,p20 17 18,p10 19] kR kR q q
 refine Y2 ?_
 refine zo (λ_=>wF Z4 (f13_c f) Lw Z3 (Zd q q q)) ?_
 refine Y2 ?_
 refine zo (λ_=>wF Z4 (f14_c g) Lw Z3 (Zd q q q)) ?_
 refine zo (λ_=>wF Z4 (f12_c j) Lw Z3 (Zd q q q)) ?_
 refine zo (rc a) ?_
 refine Y9 ?_
 exact Y4 Zt
 exact En1 h
 exact Rcx 1 q (FA h)

end Go.Proofs.YtpodhdopgcedlaaGreatDoor
