/- The walks of functions that this law reaches. -/
import Derived.Test.YtpodhdopgcedlaaGreatDoorH
set_option linter.unusedVariables false
set_option linter.unusedSimpArgs false
set_option linter.unusedSectionVars false
set_option linter.unnecessarySimpa false
set_option maxHeartbeats 4000000
set_option maxRecDepth 100000
namespace Go.Proofs.YtpodhdopgcedlaaGreatDoor
open Go.Proofs.Tryz
open Go Go.Sk

theorem f9_c{r:Bool}(h:f9=some r):Pu prog 9 [] (.v (.bool r)):=by obtain rfl:=inS h;exact vt

theorem f6_c(b0:List ac)(h1:Int){r:Bool}(h:f6 b0 h1=some r):Pu prog 6 [.sl (List.map E55 b0), .i .i64 h1] (.b r):=by
 unfold f6 at h
 refine fI func6 λ_ _=>?_
 refine Rcl 9 q ?_
 obtain⟨df,a',h⟩:=ah h
 refine wF Z4 (f16_c a') Lw Z3 (Rl 1 q ?_)
 obtain⟨bb,bf,h⟩:=ah h
 refine Gg 4 17 21 bb bf (λh=>?_) (λh=>?_) ?_
 exact On 4 4 h
 refine Rl 1 q ?_
 obtain⟨dk,bo,h⟩:=ah h
 exact WL.fn q q q q (f28_c bo) Lw (bl q q q) q q (On 2 4 h)
 refine Rl 1 q ?_
 apply WL.or 4 (t:=22) (d:=26)
 exact q
 intro dr
 exact Rl 1 q (Zy (ab E55 b0 e36 q q Zl) q q q (Rl 2 q (WL.nil ⟨q,[_,_,_,_],q,q,q⟩)))
 exact Rn 4 4
 refine Rlc 2 q (Ci h q (λh=>?_) λh=>?_)
 refine Rcl 2 q ?_
 obtain⟨ds,bs,h⟩:=ah h
 exact WL.fn q q q q (f9_c bs) Zt (Zw q) q q (Rlx 5 q (FA h))
 refine Rcl 5 q ?_
 obtain⟨O,b1,h⟩:=ah h
 refine wF Z4 (f19_c _ b1) Lw Z3 (Rll 7 q (Zq (ab E3 O e43 q q Zl) q (Rl 1 q (Zq (ab E55 b0 e36 q q Zl) q (Rlc 3 q (Ci h q (λh=>?_) λh=>?_))))))
 exact Rcx 7 q (FA h)
 refine Rcl 5 q ?_
 obtain⟨U,b2,h⟩:=ah h
 refine wF Z4 (f29_c b2) Lw Z3 (Rlc 3 q (Jn0 [(0, .l E55 b0),(1, .n h1)] [] h (λb3 h=>?_) λh=>?_))
 refine Rcc 6 q (Ln1 (λV=> [(0, .l E55 b0),(1, .n h1),(5, .l E3 O),(6, .l E4 U),(7, .n V)]) (λ_=> []) (f6_l1 b0 O U b3) h (λ_ h=>by rw[f6_l1] at h;cases h) λn V h=>?_)
 rw[f6_l1] at h
 refine Rcl 5 q (Zq (ab E55 b0 e36 q q Zl) q (Rlc 3 q (Ci h q (λh=>?_) λh=>?_)))
 refine Rcc 2 q (Jn0 [(0, .l E55 b0),(1, .n h1),(5, .l E3 O),(6, .l E4 U),(7, .n V)] [] h (λ_ h=>?_) λh=>?_)
 refine Rcl 7 q ?_
 obtain⟨b4,b5,h⟩:=ah h
 refine Gg 6 45 51 b4 b5 (λh=>?_) (λh=>?_) ?_
 exact On 6 6 h
 refine Rl 2 q ?_
 obtain⟨dS,aa,h⟩:=ah h
 exact Zy (af e57 q Zl q (ae aa) (al k9 aa) q) q q q (On 3 6 h)
 refine Rlc 2 q (Ci h q (λh=>?_) λh=>?_)
 refine Rcl 5 q (Ix h e43 ap q Zl q q λdT _ h=>(Rlc 4 q (Ci h q (λh=>?_) λh=>?_)))
 exact Rcx 13 q (FA h)
 exact Rcx 5 q (En0 h)
 refine Rcl 6 q (Ix h e43 ap q Zl q q λd0 _ h=>(Rll 9 q ?_))
 apply WL.or 5 (t:=63) (d:=68)
 exact q
 intro d1
 exact Rl 2 q (Zy (ab E55 b0 e36 q q Zl) q q q (Rl 2 q (WL.nil ⟨q,[_,_,_,_,_],q,q,q⟩)))
 exact Rn 5 5
 refine Rl 1 q ?_
 refine OG 4 69 73 4 4 ?_
 refine Rl 1 q ?_
 obtain⟨b6,b7,h⟩:=ah h
 refine Gg 6 74 80 b6 b7 (λh=>?_) (λh=>?_) ?_
 exact On 6 6 h
 refine Rl 2 q ?_
 obtain⟨d',ad,h⟩:=ah h
 exact Zy (af e57 q Zl q (ae ad) (al k9 ad) q) q q q (On 3 6 h)
 refine Rl 1 q ?_
 obtain⟨b8,b',h⟩:=ah h
 refine Gg 7 81 88 b8 b' (λh=>?_) (λh=>?_) ?_
 exact On 7 7 h
 refine Rl 2 q ?_
 obtain⟨ed,ca,h⟩:=ah h
 refine WL.fn q q q q (f29_c ca) Lw (bl q q q) q q (Rl 1 q ?_)
 obtain⟨ee,ag,h⟩:=ah h
 exact Zy (af e57 q Zl q (ae ag) (al k9 ag) q) q q q (On 2 7 h)
 exact Rlc 2 q (Ci h q (λh=>Rcx 11 q (FA h)) λh=>Rcx 2 q (En0 h))
 exact Rcx 5 q (Fn1 h)
 exact Rcx 4 q (En0 h)
 refine Rcl 4 q ?_
 obtain⟨c,cb,h⟩:=ah h
 refine wF Z4 (f21_c _ _ cb) Lw Z3 (Rll 7 q (Zq (ab E3 c e43 q q Zl) q (Rlc 3 q (Ci h q (λh=>?_) λh=>?_))))
 refine Rcl 2 q ?_
 obtain⟨el,cc,h⟩:=ah h
 exact WL.fn q q q q (f9_c cc) Zt (Zw q) q q (Rlx 5 q (FA h))
 refine Rcl 8 q ?_
 apply WL.or 5 (t:=98) (d:=103)
 exact q
 intro em
 exact Rl 2 q (Zy (ab E55 b0 e36 q q Zl) q q q (Rl 2 q (WL.nil ⟨q,[_,_,_,_,_],q,q,q⟩)))
 exact Rn 5 5
 refine Rl 1 q ?_
 obtain⟨cd,ci,h⟩:=ah h
 refine Gg 5 104 109 cd ci (λh=>?_) (λh=>?_) ?_
 exact On 5 5 h
 refine Rl 2 q ?_
 obtain⟨en,cj,h⟩:=ah h
 exact WL.fn q q q q (f27_c cj) Lw (bl q q q) q q (On 2 5 h)
 refine Rlc 2 q (Ci h q (λh=>Rcx 7 q (FA h)) λh=>?_)
 refine Rcc 2 q (Jn0 [(0, .l E55 b0),(1, .n h1),(9, .l E3 c)] [] h (λck h=>?_) λh=>?_)
 refine Rcc 6 q (Ln1 (λP=> [(0, .l E55 b0),(1, .n h1),(9, .l E3 c),(10, .n P)]) (λ_=> []) (f6_l2 b0 h1 c ck) h (λ_ h=>by rw[f6_l2] at h;cases h) λn P h=>?_)
 rw[f6_l2] at h
 refine Rcl 5 q (Zq (ab E3 c e43 q q Zl) q (Rlc 3 q (Ci h q (λh=>?_) λh=>?_)))
 refine Rcc 4 q (Jn1 (λan=> [(0, .l E55 b0),(1, .n h1),(9, .l E3 c),(10, .n P),(164, .d (D.b an))]) (λ_=> []) h (λ_ h=>?_) λan h=>?_)
 obtain⟨I,a,h⟩:=ah h
 rcases dn (decide (I<0)) with g|g
 replace h:=eU h g
 apply RT [_,_,_,_,_,_,_,_,_,_,_,_,_,_,_,_,_,_,_,_,_,_,_,_,_,_,_,_,_,_,_,_,_,_,_,_,_,_,_,_,_,_,_,_,_,_,_,_,_] [] [] [p01 9,p01 10,p20 0 1,p10 2,p10 3,p10 4,p10 5,p10 5,p10 5,p10 5,p10 5,p10 5,p10 5,p20 5 12,p10 13,p10 14,p10 14,p10 14,p10 17,p10 17,p10 17,p10 17,p10 17,p10 17,p10 17,p10 17,p10 17,p10 17,p10 14,p20 14 28,p10 29,p10 30,p10 30,p10 30,p10 30,p10 30,p10 30,p10 30,p10 37,p10 37,p10 37,p10 37,p10 37,p10 37,p10 37,p10 37,p10 37,p10 30,p20 30 47] kR kR q q
 refine Y2 ?_
 refine zo (λ_=>Zq (af e43 q Zl q (ae a) (al ap a) q) q (Zd q q q)) ?_
 refine Y2 ?_
 refine zo (rc g) ?_
 refine Y9 ?_
 refine Y9 ?_
 refine Y9 ?_
 refine Y9 ?_
 exact Y7 Zt
 exact En1 h
 replace h:=eV h g
 rcases dn (decide (I≥(List.length b0:Int))) with j|j
 replace h:=eU h j
 apply RT [_,_,_,_,_,_,_,_,_,_,_,_,_,_,_,_,_,_,_,_,_,_,_,_,_,_,_,_,_,_,_,_,_,_,_,_,_,_,_,_,_,_,_,_,_,_,_,_,_] [] [] [p01 9,p01 10,p20 0 1,p10 2,p10 3,p10 4,p11 5 9,p11 5 10,p30 6 7 5,p20 8 5,p11 5 0,p20 10 5,p30 9 11 5,p20 5 12,p10 13,p10 14,p10 14,p10 14,p10 17,p10 17,p10 17,p10 17,p10 17,p10 17,p10 17,p10 17,p10 17,p10 17,p10 14,p20 14 28,p10 29,p10 30,p10 30,p10 30,p10 30,p10 30,p10 30,p10 30,p10 37,p10 37,p10 37,p10 37,p10 37,p10 37,p10 37,p10 37,p10 37,p10 30,p20 30 47] kR kR q q
 refine Y2 ?_
 refine zo (λ_=>Zq (af e43 q Zl q (ae a) (al ap a) q) q (Zd q q q)) ?_
 refine Y2 ?_
 refine zo (rc g) ?_
 refine Y2 ?_
 refine zo (λ_=>Zy (af e43 q Zl q (ae a) (al ap a) q) q q q (Zd q q q)) ?_
 refine Y2 ?_
 refine zo (λ_=>Zy (ab E55 b0 e36 q q Zl) q q q (Zd q q q)) ?_
 refine Y2 ?_
 refine zo (rc j) ?_
 refine Y9 ?_
 refine Y9 ?_
 refine Y9 ?_
 exact Y7 Zt
 exact En1 h
 replace h:=eV h j
 rcases dn (decide (P>0)) with o|o
 replace h:=eU h o
 obtain⟨cl,B,h⟩:=ah h
 rcases dn (decide (cl≥I)) with C|C
 replace h:=eU h C
 apply RT [_,_,_,_,_,_,_,_,_,_,_,_,_,_,_,_,_,_,_,_,_,_,_,_,_,_,_,_,_,_,_,_,_,_,_,_,_,_,_,_,_,_,_,_,_,_,_,_,_] [] [] [p01 9,p01 10,p20 0 1,p10 2,p10 3,p10 4,p11 5 9,p11 5 10,p30 6 7 5,p20 8 5,p11 5 0,p20 10 5,p30 9 11 5,p20 5 12,p10 13,p11 14 10,p20 15 14,p20 16 14,p11 17 9,p11 17 10,p20 19 17,p30 18 20 17,p20 21 17,p11 17 9,p11 17 10,p30 23 24 17,p20 25 17,p30 22 26 17,p30 17 27 14,p20 14 28,p10 29,p10 30,p10 30,p10 30,p10 30,p10 30,p10 30,p10 30,p10 37,p10 37,p10 37,p10 37,p10 37,p10 37,p10 37,p10 37,p10 37,p10 30,p20 30 47] kR kR q q
 refine Y2 ?_
 refine zo (λ_=>Zq (af e43 q Zl q (ae a) (al ap a) q) q (Zd q q q)) ?_
 refine Y2 ?_
 refine zo (rc g) ?_
 refine Y2 ?_
 refine zo (λ_=>Zy (af e43 q Zl q (ae a) (al ap a) q) q q q (Zd q q q)) ?_
 refine Y2 ?_
 refine zo (λ_=>Zy (ab E55 b0 e36 q q Zl) q q q (Zd q q q)) ?_
 refine Y2 ?_
 refine zo (rc j) ?_
 refine Y2 ?_
 refine zo (rc o) ?_
 refine Y3 ?_
 refine zo (λ_=>Zy (af e43 q Zl q (ae B) (al ap B) q) q q q (Zd q q q)) ?_
 refine Y3 ?_
 refine zo (λ_=>Zy (af e43 q Zl q (ae a) (al ap a) q) q q q (Zd q q q)) ?_
 refine Y4 ?_
 refine zo (rc C) ?_
 refine Y9 ?_
 exact Y9 Zt
 exact En1 h
 replace h:=eV h C
 rcases dn (!decide (I=h1)) with J|J
 replace h:=eU h J
 obtain⟨eq,cp,h⟩:=ah h
 obtain⟨er,a0,h⟩:=ah h
 apply RT [_,_,_,_,_,_,_,_,_,_,_,_,_,_,_,_,_,_,_,_,_,_,_,_,_,_,_,_,_,_,_,_,_,_,_,_,_,_,_,_,_,_,_,_,_,_,_,_,_] [] [] [p01 9,p01 10,p20 0 1,p10 2,p10 3,p10 4,p11 5 9,p11 5 10,p30 6 7 5,p20 8 5,p11 5 0,p20 10 5,p30 9 11 5,p20 5 12,p10 13,p11 14 10,p20 15 14,p20 16 14,p11 17 9,p11 17 10,p20 19 17,p30 18 20 17,p20 21 17,p11 17 9,p11 17 10,p30 23 24 17,p20 25 17,p30 22 26 17,p30 17 27 14,p20 14 28,p10 29,p11 30 9,p11 30 10,p30 31 32 30,p20 33 30,p11 30 1,p30 34 35 30,p20 36 30,p11 37 0,p11 37 1,p30 38 39 37,p11 37 9,p11 37 10,p30 41 42 37,p20 43 37,p30 40 44 37,p20 45 37,p30 37 46 30,p20 30 47] kR kR q q
 refine Y2 ?_
 refine zo (λ_=>Zq (af e43 q Zl q (ae a) (al ap a) q) q (Zd q q q)) ?_
 refine Y2 ?_
 refine zo (rc g) ?_
 refine Y2 ?_
 refine zo (λ_=>Zy (af e43 q Zl q (ae a) (al ap a) q) q q q (Zd q q q)) ?_
 refine Y2 ?_
 refine zo (λ_=>Zy (ab E55 b0 e36 q q Zl) q q q (Zd q q q)) ?_
 refine Y2 ?_
 refine zo (rc j) ?_
 refine Y2 ?_
 refine zo (rc o) ?_
 refine Y3 ?_
 refine zo (λ_=>Zy (af e43 q Zl q (ae B) (al ap B) q) q q q (Zd q q q)) ?_
 refine Y3 ?_
 refine zo (λ_=>Zy (af e43 q Zl q (ae a) (al ap a) q) q q q (Zd q q q)) ?_
 refine Y4 ?_
 refine zo (rc C) ?_
 refine Y2 ?_
 refine zo (λ_=>Zy (af e43 q Zl q (ae a) (al ap a) q) q q q (Zd q q q)) ?_
 refine Y3 ?_
 refine zo (rc J) ?_
 refine Y2 ?_
 refine zo (λ_=>WL.fn q q q q (f29_c cp) Lw (bl q q q) q q (Zd q q q)) ?_
 refine Y2 ?_
 refine zo (λ_=>Zy (af e43 q Zl q (ae a) (al ap a) q) q q q (Zd q q q)) ?_
 refine Y1 ?_
 refine zo (λ_=>Zy (af e57 q Zl q (ae a0) (al k9 a0) q) q q q (Zd q q q)) ?_
 exact Y3 Zt
 exact En1 h
 replace h:=eV h J
 apply RT [_,_,_,_,_,_,_,_,_,_,_,_,_,_,_,_,_,_,_,_,_,_,_,_,_,_,_,_,_,_,_,_,_,_,_,_,_,_,_,_,_,_,_,_,_,_,_,_,_] [] [] [p01 9,p01 10,p20 0 1,p10 2,p10 3,p10 4,p11 5 9,p11 5 10,p30 6 7 5,p20 8 5,p11 5 0,p20 10 5,p30 9 11 5,p20 5 12,p10 13,p11 14 10,p20 15 14,p20 16 14,p11 17 9,p11 17 10,p20 19 17,p30 18 20 17,p20 21 17,p11 17 9,p11 17 10,p30 23 24 17,p20 25 17,p30 22 26 17,p30 17 27 14,p20 14 28,p10 29,p11 30 9,p11 30 10,p30 31 32 30,p20 33 30,p11 30 1,p30 34 35 30,p20 36 30,p10 37,p10 37,p10 37,p10 37,p10 37,p10 37,p10 37,p10 37,p10 37,p30 37 46 30,p20 30 47] kR kR q q
 refine Y2 ?_
 refine zo (λ_=>Zq (af e43 q Zl q (ae a) (al ap a) q) q (Zd q q q)) ?_
 refine Y2 ?_
 refine zo (rc g) ?_
 refine Y2 ?_
 refine zo (λ_=>Zy (af e43 q Zl q (ae a) (al ap a) q) q q q (Zd q q q)) ?_
 refine Y2 ?_
 refine zo (λ_=>Zy (ab E55 b0 e36 q q Zl) q q q (Zd q q q)) ?_
 refine Y2 ?_
 refine zo (rc j) ?_
 refine Y2 ?_
 refine zo (rc o) ?_
 refine Y3 ?_
 refine zo (λ_=>Zy (af e43 q Zl q (ae B) (al ap B) q) q q q (Zd q q q)) ?_
 refine Y3 ?_
 refine zo (λ_=>Zy (af e43 q Zl q (ae a) (al ap a) q) q q q (Zd q q q)) ?_
 refine Y4 ?_
 refine zo (rc C) ?_
 refine Y2 ?_
 refine zo (λ_=>Zy (af e43 q Zl q (ae a) (al ap a) q) q q q (Zd q q q)) ?_
 refine Y3 ?_
 refine zo (rc J) ?_
 refine Y9 ?_
 exact Y2 Zt
 exact En1 h
 replace h:=eV h o
 rcases dn (!decide (I=h1)) with K|K
 replace h:=eU h K
 obtain⟨es,cr,h⟩:=ah h
 obtain⟨et,a1,h⟩:=ah h
 apply RT [_,_,_,_,_,_,_,_,_,_,_,_,_,_,_,_,_,_,_,_,_,_,_,_,_,_,_,_,_,_,_,_,_,_,_,_,_,_,_,_,_,_,_,_,_,_,_,_,_] [] [] [p01 9,p01 10,p20 0 1,p10 2,p10 3,p10 4,p11 5 9,p11 5 10,p30 6 7 5,p20 8 5,p11 5 0,p20 10 5,p30 9 11 5,p20 5 12,p10 13,p11 14 10,p20 15 14,p20 16 14,p10 17,p10 17,p10 17,p10 17,p10 17,p10 17,p10 17,p10 17,p10 17,p10 17,p30 17 27 14,p20 14 28,p10 29,p11 30 9,p11 30 10,p30 31 32 30,p20 33 30,p11 30 1,p30 34 35 30,p20 36 30,p11 37 0,p11 37 1,p30 38 39 37,p11 37 9,p11 37 10,p30 41 42 37,p20 43 37,p30 40 44 37,p20 45 37,p30 37 46 30,p20 30 47] kR kR q q
 refine Y2 ?_
 refine zo (λ_=>Zq (af e43 q Zl q (ae a) (al ap a) q) q (Zd q q q)) ?_
 refine Y2 ?_
 refine zo (rc g) ?_
 refine Y2 ?_
 refine zo (λ_=>Zy (af e43 q Zl q (ae a) (al ap a) q) q q q (Zd q q q)) ?_
 refine Y2 ?_
 refine zo (λ_=>Zy (ab E55 b0 e36 q q Zl) q q q (Zd q q q)) ?_
 refine Y2 ?_
 refine zo (rc j) ?_
 refine Y2 ?_
 refine zo (rc o) ?_
 refine Y9 ?_
 refine Y6 ?_
 refine zo (λ_=>Zy (af e43 q Zl q (ae a) (al ap a) q) q q q (Zd q q q)) ?_
 refine Y3 ?_
 refine zo (rc K) ?_
 refine Y2 ?_
 refine zo (λ_=>WL.fn q q q q (f29_c cr) Lw (bl q q q) q q (Zd q q q)) ?_
 refine Y2 ?_
 refine zo (λ_=>Zy (af e43 q Zl q (ae a) (al ap a) q) q q q (Zd q q q)) ?_
 refine Y1 ?_
 refine zo (λ_=>Zy (af e57 q Zl q (ae a1) (al k9 a1) q) q q q (Zd q q q)) ?_
 exact Y3 Zt
 exact En1 h
 replace h:=eV h K
 apply RT [_,_,_,_,_,_,_,_,_,_,_,_,_,_,_,_,_,_,_,_,_,_,_,_,_,_,_,_,_,_,_,_,_,_,_,_,_,_,_,_,_,_,_,_,_,_,_,_,_] [] [] [p01 9,p01 10,p20 0 1,p10 2,p10 3,p10 4,p11 5 9,p11 5 10,p30 6 7 5,p20 8 5,p11 5 0,p20 10 5,p30 9 11 5,p20 5 12,p10 13,p11 14 10,p20 15 14,p20 16 14,p10 17,p10 17,p10 17,p10 17,p10 17,p10 17,p10 17,p10 17,p10 17,p10 17,p30 17 27 14,p20 14 28,p10 29,p11 30 9,p11 30 10,p30 31 32 30,p20 33 30,p11 30 1,p30 34 35 30,p20 36 30,p10 37,p10 37,p10 37,p10 37,p10 37,p10 37,p10 37,p10 37,p10 37,p30 37 46 30,p20 30 47] kR kR q q
 refine Y2 ?_
 refine zo (λ_=>Zq (af e43 q Zl q (ae a) (al ap a) q) q (Zd q q q)) ?_
 refine Y2 ?_
 refine zo (rc g) ?_
 refine Y2 ?_
 refine zo (λ_=>Zy (af e43 q Zl q (ae a) (al ap a) q) q q q (Zd q q q)) ?_
 refine Y2 ?_
 refine zo (λ_=>Zy (ab E55 b0 e36 q q Zl) q q q (Zd q q q)) ?_
 refine Y2 ?_
 refine zo (rc j) ?_
 refine Y2 ?_
 refine zo (rc o) ?_
 refine Y9 ?_
 refine Y6 ?_
 refine zo (λ_=>Zy (af e43 q Zl q (ae a) (al ap a) q) q q q (Zd q q q)) ?_
 refine Y3 ?_
 refine zo (rc K) ?_
 refine Y9 ?_
 exact Y2 Zt
 exact En1 h
 refine Ci h q (λh=>?_) (λh=>?_)
 exact Rcx 11 q (FA h)
 exact Rcx 8 q (Fn1 h)
 exact Rcx 4 q (En0 h)
 refine Rcl 3 q (Zq (ab E55 b0 e36 q q Zl) q ?_)
 replace h:=aN h
 obtain⟨c0,h⟩:=h
 refine WL.s ((NewOs.b (bP l36 z55 q (Nat.succ_pos _) q q c0)).does) (Zw q) q q (Gh.wl (ob E3 [.n 0, .n 0] q 0 3 1 q q) (Rlc 3 q ?_))
 replace h:=av h
 obtain⟨a6,c1,h⟩:=h
 refine aS (λenv' st'=>∃(A:lL),∃(W:Nat),a6 A=some r∧Sub [(1, .n h1),(9, .l E3 c),(11, .os 0 0)] env'∧SLe st' [.os 55 3 0 (bU [.n 0, .n 0] 1 W (List.length A)), .fam 3 1 W (bH E3 A)]) ?_ ?_
 refine Rcc 6 q (bn (λn env' st'=>∃(w:Int),∃(M:lL),∃(X:Nat),f6_l3 b0 c a6 n w M=some r∧Sub [(0, .l E55 b0),(1, .n h1),(9, .l E3 c),(11, .os 0 0),(12, .n w)] env'∧SLe st' [.os 55 3 0 (bU [.n 0, .n 0] 1 X (List.length M)), .fam 3 1 X (bH E3 M)]) (λn=>n) 9223372036854775808 ⟨0,(List.replicate (Int.toNat (List.length b0:Int)) ([]:lI)),_,h,(Sx q (Sx q (Sx q (Sx q (Sx q (Sub.nil _)))))),⟨Zf,Zf,Zt⟩⟩ ?_)
 rintro n env1 st1 ⟨w,M,X,h,hsub,hst⟩
 rcases n with _|n
 rw[f6_l3] at h;cases h
 rw[f6_l3] at h
 refine WC.sub hsub (WC.weak hst ?_)
 refine Rcl 5 q (Zq (ab E3 c e43 q q Zl) q (Rlc 3 q (Ci h q (λh=>?_) λh=>?_)))
 refine Rcc 2 q ?_
 replace h:=av h
 obtain⟨a7,c2,h⟩:=h
 refine aS (λenv' st'=>∃(Q:lL),∃(Y:Nat),a7 Q=some r∧Sub [(0, .l E55 b0),(1, .n h1),(9, .l E3 c),(11, .os 0 0),(12, .n w)] env'∧SLe st' [.os 55 3 0 (bU [.n 0, .n 0] 1 Y (List.length Q)), .fam 3 1 Y (bH E3 Q)]) ?_ ?_
 refine Rcc 7 q (bn (λna env' st'=>∃(N:Int),∃(f:lL),∃(k:Nat),f6_l4 b0 c w a7 na N f=some r∧Sub [(0, .l E55 b0),(1, .n h1),(9, .l E3 c),(11, .os 0 0),(12, .n w),(13, .n N)] env'∧SLe st' [.os 55 3 0 (bU [.n 0, .n 0] 1 k (List.length f)), .fam 3 1 k (bH E3 f)]) (λn=>n) 9223372036854775808 ⟨0,M,_,h,(Sx q (Sx q (Sx q (Sx q (Sx q (Sx q (Sub.nil _))))))),⟨Zf,Zf,Zt⟩⟩ ?_)
 rintro na env1 st1 ⟨N,f,k,h,hsub,hst⟩
 rcases na with _|na
 rw[f6_l4] at h;cases h
 rw[f6_l4] at h
 refine WC.sub hsub (WC.weak hst ?_)
 refine Rcl 7 q (Ix h e43 ap q Zl q q λm e h=>(Rl 1 q (Ix h e36 co q Zl q q λc3 F h=>(Rl 2 q (Zq (ab E3 c3.next e43 q q Zl) q (Rlc 3 q (Ci h q (λh=>?_) λh=>?_)))))))
 refine Rcc 2 q ?_
 replace h:=av h
 obtain⟨c4,c5,h⟩:=h
 refine aS (λenv' st'=>∃(S:lL),∃(Z:Nat),c4 S=some r∧Sub [(0, .l E55 b0),(1, .n h1),(9, .l E3 c),(11, .os 0 0),(12, .n w),(13, .n N)] env'∧SLe st' [.os 55 3 0 (bU [.n 0, .n 0] 1 Z (List.length S)), .fam 3 1 Z (bH E3 S)]) ?_ ?_
 refine Rcl 7 q (Zq (af e43 q Zl q (ae e) (al ap e) q) q (Rl 1 q (Zq (af e36 q Zl q (ae F) (al co F) q) q (Rl 3 q (Ix h e43 ap q Zl q q λG T h=>(Rl 1 q ?_))))))
 obtain⟨ew,c6,h⟩:=ah h
 refine wF Z4 (f27_c c6) Lw Z3 (Rlc 2 q (Ci h q (λh=>?_) λh=>?_))
 obtain⟨H,y,h⟩:=ah h
 replace h:=aN h
 obtain⟨c7,h⟩:=h
 apply RT [_,_,_,_,_,_,_,_,_,_,_,_,_,_,_,_,_,_,_,_,_,_,_,_,_,_,_,_, .u] [12,25,28] [[.os 55 3 0 (List.set (bU [.n 0, .n 0] 1 (k+1) (List.length f)) (Int.toNat m) ([.n 0, .n 0]++ [.os 2 0])), .fam 3 1 (k+1) (bH E3 (List.set f (Int.toNat m) [])), .os 3 1 0 (eM E3 H)],[.os 55 3 0 (List.set (bU [.n 0, .n 0] 1 (k+1) (List.length f)) (Int.toNat m) ([.n 0, .n 0]++ [.os 2 0])), .fam 3 1 (k+1) (bH E3 (List.set f (Int.toNat m) [])), .os 3 1 1 (eM E3 (H++ [G]))],[.os 55 3 0 (List.set (bU [.n 0, .n 0] 1 (k+1) (List.length f)) (Int.toNat m) ([.n 0, .n 0]++ [.os 2 1])), .fam 3 1 (k+1) (bH E3 (List.set f (Int.toNat m) [])), .os 3 1 1 (eM E3 (H++ [G]))]] [([],[11],[0,1,2]),([],[9],[0,1,2]),([],[12],[0,1,2]),([1,2],[],[0,1,2]),([3],[],[0,1,2]),p01 11,p01 9,p01 12,p20 6 7,p10 8,p20 5 9,p10 10,p10 11,u01 0,u01 9,u01 12,u20 14 15,u10 16,u20 13 17,u10 18,u10 19,u01 13,u20 20 21,u10 22,u10 23,q20 12 24 1,q20 0 4 2,q10 26 2,q20 27 25 2] kR kR q q
 refine X3c ?_
 refine⟨⟨λ_=>Zq (af e43 q Zl q (ae e) (al ap e) q) q (Zd q q q),λ_=>Zq (af e43 q Zl q (ae e) (al ap e) q) q (Zd q q q),λ_=>Zq (af e43 q Zl q (ae e) (al ap e) q) q (Zd q q q),Zt⟩,?_⟩
 refine X3a ?_
 refine Y3 ?_
 refine zo (λ_=>Zq (af e43 q Zl q (ae e) (al ap e) q) q (Zd q q q)) ?_
 refine Y1 ?_
 refine zo (λ_=>Zq (rq e36 q q q (ae y) (fj y)) q (Zd q q q)) ?_
 refine zo (λ_=>Zq (d5 f55_2 q q) q (Zd q q q)) ?_
 refine zo (λ_=>Gh.wl (mX (L:=f) (x:=H) (i:=m) (p:=[.n 0, .n 0]) q 0 1 q q q y) (Zq (nC (p:=[.n 0, .n 0]) (i:=m) q q q q a43 (cv y)) q (Zd q q q))) ?_
 refine X2c ?_
 refine⟨⟨λ_=>Zq (af e43 q Zl q (ae e) (al ap e) q) q (Zd q q q),λ_=>Zq (af e43 q Zl q (ae e) (al ap e) q) q (Zd q q q),Zt⟩,?_⟩
 refine X2a ?_
 refine⟨⟨λ_=>Zq (af e36 q Zl q (ae F) (al co F) q) q (Zd q q q),λ_=>Zq (af e36 q Zl q (ae F) (al co F) q) q (Zd q q q),Zt⟩,?_⟩
 refine X2c ?_
 refine⟨⟨λ_=>Zq (af e43 q Zl q (ae T) (al ap T) q) q (Zd q q q),λ_=>Zq (af e43 q Zl q (ae T) (al ap T) q) q (Zd q q q),Zt⟩,?_⟩
 refine X2a ?_
 refine⟨⟨λ_=>WL.s ((NewOs.data (aK l43 z3 q dC dC q q q dC) (by exact aY ap [G])).does) (Zw q) q q (Zd q q q),λ_=>WL.s ((NewOs.data (aK l43 z3 q dC dC q q q dC) (by exact aY ap [G])).does) (Zw q) q q (Zd q q q),Zt⟩,?_⟩
 refine zo (λ_=>WL.s (bK E3 H [G] l43 z3 q dC q q q q (e8 Zl ap λ_=>q) (λ_=>q) (λ_=>q) c7) (Zw q) q q (Zd q q q)) ?_
 refine zo (λ_=>Zq (ph e36 q q q (ae y) (fj y)) q (Zd q q q)) ?_
 refine zo (λ_=>Zq (d5 f55_2 q q) q (Zd q q q)) ?_
 exact zo (λ_=>WL.s0 (lq (p:=[.n 0, .n 0]) (i:=m) (n:=List.length f) q q q q q q s43 (cv y)) (Zw q) q (cG q q)) Zt
 exact gW (mY (L0:=f) (x':=(H++ [G])) (p:=[.n 0, .n 0]) q 0 1 2 q q q q q (cv y)) (Rxx 1 q (WE.drop 2 (env':=[(0, .l E55 b0),(1, .n h1),(9, .l E3 c),(11, .os 0 0),(12, .n w),(13, .n N)]) Sb q (aT (vm _ _ _ _ _ _ _ q q) Kv) (Nat.zero_le _) (En2 h)))
 exact Rcx 2 q (En2 h)
 rintro env1 st1 ⟨S,Z,h,hsub,hst⟩
 subst c5
 dsimp only at h
 refine WC.sub hsub (WC.weak hst ?_)
 exact Rcx 5 q (Fn3 h)
 exact Rcx 5 q (En2 h)
 rintro env1 st1 ⟨Q,Y,h,hsub,hst⟩
 subst c2
 dsimp only at h
 refine WC.sub hsub (WC.weak hst ?_)
 exact Rcx 5 q (Fn3 h)
 exact Rcx 4 q (En2 h)
 rintro env1 st1 ⟨A,W,h,hsub,hst⟩
 subst c1
 dsimp only at h
 refine WC.sub hsub (WC.weak hst ?_)
 refine Jn0 [] [.z, .z] h (λc8 h=>?_) (λh=>?_)
 refine Rcc 1 q (ux (oc (E:=E3) (R':=E3) (RB:=R55) (L:=A) (p:=[.n 0, .n 0]) (λl=>ac.mk 0 0 l) q 0 1 ap (λ_=>q) q q q) ?_)
 refine WC.freezeX [11] [] 0 _ q (aY co _) ⟨q,Zt⟩ Zt (Rcc 5 q (Ln1 (λa8=> [(1, .n h1),(9, .l E3 c),(11, .l E55 (List.map (λl=>ac.mk 0 0 l) A)),(14, .n a8)]) (λ_=> [.z, .z]) (f6_l5 h1 c A c8) h (λ_ h=>by rw[f6_l5] at h;cases h) λn a8 h=>?_))
 rw[f6_l5] at h
 refine Rcl 5 q (Zq (ab E3 c e43 q q Zl) q (Rlc 3 q (Ci h q (λh=>?_) λh=>?_)))
 refine Rcl 9 q (Ix h e43 ap q Zl q q λex _ h=>(Rl 1 q ?_))
 obtain⟨ey,c',h⟩:=ah h
 refine wF Z4 (f29_c c') Lw Z3 (Rl 1 q (Ix h e57 k9 q Zl q q λe0 _ h=>(Rlc 4 q (Ci h q (λh=>?_) λh=>?_))))
 exact Rcx 11 q (FA h)
 exact Rcx 8 q (Fn1 h)
 exact Rcx 4 q (En0 h)
 refine Rcl 2 q ?_
 obtain⟨e1,dd,h⟩:=ah h
 exact WL.fn q q q q (f9_c dd) Zt (Zw q) q q (Rlx 4 q (FA h))

end Go.Proofs.YtpodhdopgcedlaaGreatDoor
