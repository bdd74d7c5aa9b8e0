/- The walks of functions that this law reaches. -/
import Derived.Test.YtpodhdopgcedlaaGreatDoorH
set_option linter.unusedVariables false
set_option linter.unusedSimpArgs false
set_option linter.unusedSectionVars false
set_option linter.unnecessarySimpa false
set_option maxHeartbeats 4000000
set_option maxRecDepth 100000
namespace Go.Proofs.YtpodhdopgcedlaaGreatDoor
open Go.Proofs.Tryz
open Go Go.Sk

theorem f9_c{r:Bool}(h:f9=some r):Pu prog 9 [] (.v (.bool r)):=by obtain rfl:=inS h;exact uJ

theorem f7_c(c:lI){r:Bool}(h:f7 c=some r):Pu prog 7 [.sl (List.map E5 c)] (.b r):=by
 unfold f7 at h
 refine fI func7 λ_ _=>?_
 refine Rcl 9 q (Zq (ac E5 c e59 q q Zl) q (Rlc 3 q (Ci h q (λh=>?_) λh=>?_)))
 refine Rcl 2 q ?_
 obtain⟨an,K,h⟩:=ae h
 exact WL.fn q q q q (f9_c K) Zt (Zw q) q q (Rlx 5 q (FA h))
 refine Rcl 4 q (Zq (bz p55 z55 q q) q (WL.s ((NewOs.b (NewOs.weak (es':=List.map (aD R55) [(ab.mk 0 0 [])]) (au l36 z55 q dC dC q q q dC) (by exact⟨⟨Zl,Zl,Le.nil,Zt⟩,Zt⟩))).does) (Zw q) q q (Rlc 8 q ?_)))
 replace h:=ar h
 obtain⟨A,L,h⟩:=h
 refine bm (λenv' st'=>∃(x:Int),∃(j:List ab),∃(y:Nat),A x j=some r∧Sub [(3, .os 0 y),(4, .n x)] env'∧SLe st' [.os 55 3 y (eM R55 j)]) ?_ ?_
 refine Rcc 6 q (bB (λn env' st'=>∃(f:Int),∃(e:Int),∃(a:List ab),∃(d:Nat),f7_l1 c A n f e a=some r∧Sub [(0, .l E5 c),(3, .os 0 d),(4, .n f),(5, .n e)] env'∧SLe st' [.os 55 3 d (eM R55 a)]) (λn=>n) 9223372036854775808 ⟨0,0,[(ab.mk 0 0 [])],_,h,(Sx q (Sx q (Sx q (Sx q (Sub.nil _))))),⟨Zf,Zt⟩⟩ ?_)
 rintro n env1 st1 ⟨f,e,a,d,h,hsub,hst⟩
 rcases n with _|n
 rw[f7_l1] at h;cases h
 rw[f7_l1] at h
 refine WC.sub hsub (WC.weak hst ?_)
 refine Rcl 5 q (Zq (ac E5 c e59 q q Zl) q (Rlc 3 q (Ci h q (λh=>?_) λh=>?_)))
 refine Rcc 2 q (Jn2 (λB _=> [(0, .l E5 c),(3, .os 0 (d+1)),(4, .n B),(5, .n e)]) (λ_ C=> [.os 55 3 (d+1) (eM R55 C)]) h (λ_ h=>?_) λB C h=>?_)
 refine Rcl 5 q (Ix h e59 vL q Zl q q λg _ h=>(Rl 1 q (Zq (vu q q dC q) q (Rl 2 q (Zq (bZ (aD R55) a e36 q q q) q ?_)))))
 replace h:=aL h
 obtain⟨M,h⟩:=h
 refine Zq (ru q q (nz_ne M)) q (Rll 6 q (Zq (bZ (aD R55) a e36 q q q) q (Rll 7 q ?_)))
 obtain⟨m,E,h⟩:=ae h
 refine Zq (fm e36 q q q E) q (Zq (b9 f55_2 q q) q (Zq (cH (fo:=2) q q q a43 (λ_=>q) E q) q (Rll 7 q (Ix h e59 vL q Zl q q λa0 _ h=>(Rl 1 q (Zq (ru q q dC) q (Rlc 9 q (Ci h q (λh=>?_) λh=>?_))))))))
 refine Rcl 5 q (WL.s ((NewOs.b (au l43 z3 q dC dC q q q dC)).does) (Zw q) q q ?_)
 obtain⟨o,F,h⟩:=ae h
 refine Zq (fm e36 q q q F) q (Zq (b9 f55_2 q q) q ?_)
 refine WL.freezeX [70] [] 1 _ q (aN aS [(List.length a:Int)]) ⟨q,Zt⟩ Zt (WL.s0 (bq (R:=R55) (k:=3) (i:=(Int.tmod (IntKind.i64.wrap (IntKind.u8.wrap (Int.tdiv g 3))) (List.length a:Int))) (fo:=2) (ab.mk o.from_ o.to [(List.length a:Int)]) q q q q Zl q q q s43 q (λ_=>q) F q q) (Zw q) q (Rll 5 q (Zq (bz p55 z55 q q) q (WL.s ((NewOs.b (au l36 z55 q dC dC q q q dC)).does) (Zw q) q q ?_))))
 replace h:=aL h
 obtain⟨N,h⟩:=h
 exact WL.s (bx R55 (List.set a (Int.toNat (Int.tmod (IntKind.i64.wrap (IntKind.u8.wrap (Int.tdiv g 3))) (List.length a:Int))) (ab.mk o.from_ o.to [(List.length a:Int)])) [(ab.mk 0 0 m.next)] l36 z55 q dC q q q q (Src.own q) (λ_=>q) (λ_=>q) N) (Zw q) q q (Rlx 4 q (WE.drop 1 (env':=[(0, .l E5 c),(3, .os 0 (d+1)),(4, .n f),(5, .n e)]) Sb q Kv (Nat.zero_le _) (En2 h)))
 refine Rcc 6 q (Ci h q (λh=>?_) λh=>?_)
 refine Rcl 7 q (WL.s ((NewOs.b (au l43 z3 q dC dC q q q dC)).does) (Zw q) q q ?_)
 obtain⟨p,G,h⟩:=ae h
 refine Zq (fm e36 q q q G) q (Zq (b9 f55_2 q q) q ?_)
 refine WL.freezeX [85] [] 1 _ q (aN aS [(List.length a:Int),(IntKind.i64.wrap ((List.length a:Int)+1))]) ⟨q,Zt⟩ Zt (WL.s0 (bq (R:=R55) (k:=3) (i:=(Int.tmod (IntKind.i64.wrap (IntKind.u8.wrap (Int.tdiv g 3))) (List.length a:Int))) (fo:=2) (ab.mk p.from_ p.to [(List.length a:Int),(IntKind.i64.wrap ((List.length a:Int)+1))]) q q q q Zl q q q s43 q (λ_=>q) G q q) (Zw q) q (Rll 6 q (WL.s ((NewOs.b (au l43 z3 q dC dC q q q dC)).does) (Zw q) q q ?_)))
 refine WL.freezeX [91] [] 2 _ q (aN aS [(IntKind.i64.wrap ((List.length a:Int)+1))]) ⟨q,Zt⟩ Zt (Zq (bz p55 z55 q q) q (Rl 1 q (Zq (bz p55 z55 q q) q (WL.s ((NewOs.b (au l36 z55 q dC dC q q q dC)).does) (Zw q) q q ?_))))
 replace h:=aL h
 obtain⟨O,h⟩:=h
 exact WL.s (bx R55 (List.set a (Int.toNat (Int.tmod (IntKind.i64.wrap (IntKind.u8.wrap (Int.tdiv g 3))) (List.length a:Int))) (ab.mk p.from_ p.to [(List.length a:Int),(IntKind.i64.wrap ((List.length a:Int)+1))])) [(ab.mk 0 0 [(IntKind.i64.wrap ((List.length a:Int)+1))]),(ab.mk 0 0 m.next)] l36 z55 q dC q q q q (Src.own q) (λ_=>q) (λ_=>q) O) (Zw q) q q (Rlx 4 q (WE.drop 1 (env':=[(0, .l E5 c),(3, .os 0 (d+1)),(4, .n f),(5, .n e)]) Sb q Kv (Nat.zero_le _) (En2 h)))
 refine Rcl 5 q (WL.s ((NewOs.b (au l43 z3 q dC dC q q q dC)).does) (Zw q) q q ?_)
 obtain⟨t,H,h⟩:=ae h
 refine Zq (fm e36 q q q H) q (Zq (b9 f55_2 q q) q ?_)
 refine WL.freezeX [48] [] 1 _ q (aN aS [(List.length a:Int)]) ⟨q,Zt⟩ Zt (WL.s0 (bq (R:=R55) (k:=3) (i:=(Int.tmod (IntKind.i64.wrap (IntKind.u8.wrap (Int.tdiv g 3))) (List.length a:Int))) (fo:=2) (ab.mk t.from_ t.to [(List.length a:Int)]) q q q q Zl q q q s43 q (λ_=>q) H q q) (Zw q) q (Rll 7 q (WL.s ((NewOs.b (au l43 z3 q dC dC q q q dC)).does) (Zw q) q q (Rl 1 q ?_))))
 replace h:=aL h
 obtain⟨P,h⟩:=h
 refine WL.s (bx E3 [(IntKind.i64.wrap ((List.length a:Int)+1))] m.next l43 z3 q dC q q q q (eO Zl aS λ_=>q) (λ_=>q) (λ_=>q) P) (Zw q) q q ?_
 refine WL.freezeX [56] [] 2 _ q (aN aS _) ⟨q,Zt⟩ Zt (Zq (bz p55 z55 q q) q (Rl 1 q (WL.s ((NewOs.b (au l43 z3 q dC dC q q q dC)).does) (Zw q) q q ?_)))
 refine WL.freezeX [59] [] 3 _ q (aN aS [(List.length a:Int)]) ⟨q,Zt⟩ Zt (Zq (bz p55 z55 q q) q (WL.s ((NewOs.b (au l36 z55 q dC dC q q q dC)).does) (Zw q) q q ?_))
 replace h:=aL h
 obtain⟨Q,h⟩:=h
 exact WL.s (bx R55 (List.set a (Int.toNat (Int.tmod (IntKind.i64.wrap (IntKind.u8.wrap (Int.tdiv g 3))) (List.length a:Int))) (ab.mk t.from_ t.to [(List.length a:Int)])) [(ab.mk 0 0 ([(IntKind.i64.wrap ((List.length a:Int)+1))]++m.next)),(ab.mk 0 0 [(List.length a:Int)])] l36 z55 q dC q q q q (Src.own q) (λ_=>q) (λ_=>q) Q) (Zw q) q q (Rlx 10 q (WE.drop 1 (env':=[(0, .l E5 c),(3, .os 0 (d+1)),(4, .n (IntKind.i64.wrap (f+1))),(5, .n e)]) Sb q Kv (Nat.zero_le _) (En2 h)))
 exact Rcx 5 q (Fn4 h)
 exact Rcx 4 q (En3 h)
 rintro env1 st1 ⟨x,j,y,h,hsub,hst⟩
 subst L
 dsimp only at h
 refine WC.sub hsub (WC.weak hst ?_)
 refine Rcl 3 q ?_
 refine WL.freezeX [3,97] [] 0 _ q (aN hY _) ⟨q,q,Zt⟩ Zt ?_
 obtain⟨w,S,h⟩:=ae h
 refine wF Z4 (f17_c _ S) Lw Z3 (Rll 7 q (Zq (ac E50 w e48 q q Zl) q (Rl 3 q ?_)))
 obtain⟨T,U,h⟩:=ae h
 refine Gg 4 103 107 T U (λh=>?_) (λh=>?_) ?_
 exact On 4 4 h
 refine Rl 1 q ?_
 obtain⟨a1,V,h⟩:=ae h
 exact WL.fn q q q q (f23_c _ V) Lw (bt q q q) q q (On 2 4 h)
 refine Rlc 2 q (Ci h q (λh=>Rcx 7 q (FA h)) λh=>?_)
 refine Rcc 2 q (Jn0 [] [.z] h (λW h=>?_) λh=>?_)
 refine Rcc 6 q (Ln1 (λI=> [(3, .l E55 j),(9, .l E50 w),(10, .n I)]) (λ_=> [.z]) (f7_l2 j w W) h (λ_ h=>by rw[f7_l2] at h;cases h) λn I h=>?_)
 rw[f7_l2] at h
 refine Rcl 5 q (Zq (ac E50 w e48 q q Zl) q (Rlc 3 q (Ci h q (λh=>?_) λh=>?_)))
 refine Rcl 9 q (Ix h e48 kO q Zl q q λa6 _ h=>(Zq (cz rk q q dC dC) q (Rl 1 q ?_)))
 obtain⟨X,Y,h⟩:=ae h
 refine wF Z4 (f21_c _ _ Y) Lw Z3 (Rll 6 q (Zq (ac E3 X e43 q q Zl) q (Rl 2 q ?_)))
 obtain⟨Z,aa,h⟩:=ae h
 refine Gg 9 124 133 Z aa (λh=>?_) (λh=>?_) ?_
 exact On 9 9 h
 refine Rl 3 q ?_
 obtain⟨a7,J,h⟩:=ae h
 refine Zy (aC e48 q Zl q (am J) (bu kO J) q) q q q (Zy (cz rk q q dC dC) q q q (Rl 1 q ?_))
 obtain⟨a8,ad,h⟩:=ae h
 exact WL.fn q q q q (f27_c ad) Lw (bt q q q) q q (On 2 9 h)
 exact Rlc 2 q (Ci h q (λh=>Rcx 11 q (FA h)) λh=>Rcx 8 q (Fn1 h))
 exact Rcx 4 q (En0 h)
 refine Rcl 2 q ?_
 obtain⟨a',ag,h⟩:=ae h
 exact WL.fn q q q q (f9_c ag) Zt (Zw q) q q (Rlx 4 q (FA h))

end Go.Proofs.YtpodhdopgcedlaaGreatDoor
