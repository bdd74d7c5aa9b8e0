/- The walks of intervals. -/
import Derived.Test.YtkbpoeellidgeaaGreatDoorX
set_option linter.unusedVariables false
set_option linter.unusedSimpArgs false
set_option linter.unusedSectionVars false
set_option linter.unnecessarySimpa false
set_option maxHeartbeats 4000000
set_option maxRecDepth 100000
namespace Go.Proofs.YtkbpoeellidgeaaGreatDoor
open Go.Proofs.Tryz
open Go Go.Sk

theorem f160_c{a0:Int}{b1:Int}:Pu prog 160 [.i .i64 a0, .i .i64 b1] (.i .i64 (f160 a0 b1)):=by
 generalize h:f160 a0 b1=r
 unfold f160 at h
 refine fI func160 λ_ _=>?_
 exact Rcx 14 q (FB h)

theorem f161_c{a0:Int}{b1:Int}:Pu prog 161 [.i .i64 a0, .i .i64 b1] (.i .i64 (f161 a0 b1)):=by
 generalize h:f161 a0 b1=r
 unfold f161 at h
 refine fI func161 λ_ _=>?_
 exact Rcx 14 q (FB h)

theorem f162_c{a0:Int}{b1:Int}:Pu prog 162 [.i .i64 a0, .i .i64 b1] (.i .i64 (f162 a0 b1)):=by
 generalize h:f162 a0 b1=r
 unfold f162 at h
 refine fI func162 λ_ _=>?_
 exact Rcx 14 q (FB h)

theorem f164_c{a0:Int}{b1:Int}{r:Int}(h:f164 a0 b1=some r):Pu prog 164 [.i .i64 a0, .i .i64 b1] (.i .i64 r):=by
 unfold f164 at h
 refine fI func164 λ_ _=>?_
 refine Rcl 9 q ?_
 replace h:=aD h
 obtain⟨a,h⟩:=h
 exact Zq (vb q q (oF a) q) q (Rlx 4 q (FA h))

theorem f165_c{a0:Int}{b1:Int}{r:Int}(h:f165 a0 b1=some r):Pu prog 165 [.i .i64 a0, .i .i64 b1] (.i .i64 r):=by
 unfold f165 at h
 refine fI func165 λ_ _=>?_
 refine Rcl 9 q ?_
 replace h:=aD h
 obtain⟨a,h⟩:=h
 exact Zq (sw q q (oF a)) q (Rlx 4 q (FA h))

theorem f168_c{a0:Int}{b1:Int}:Pu prog 168 [.i .i64 a0, .i .i64 b1] (.b (f168 a0 b1)):=by
 generalize h:f168 a0 b1=r
 unfold f168 at h
 refine fI func168 λ_ _=>?_
 exact Rcx 14 q (FB h)

theorem f169_c{a0:Int}{b1:Int}:Pu prog 169 [.i .i64 a0, .i .i64 b1] (.b (f169 a0 b1)):=by
 generalize h:f169 a0 b1=r
 unfold f169 at h
 refine fI func169 λ_ _=>?_
 exact Rcx 14 q (FB h)

theorem f170_c{a0:Int}{b1:Int}:Pu prog 170 [.i .i64 a0, .i .i64 b1] (.b (f170 a0 b1)):=by
 generalize h:f170 a0 b1=r
 unfold f170 at h
 refine fI func170 λ_ _=>?_
 exact Rcx 14 q (FB h)

theorem f171_c{a0:Int}{b1:Int}:Pu prog 171 [.i .i64 a0, .i .i64 b1] (.b (f171 a0 b1)):=by
 generalize h:f171 a0 b1=r
 unfold f171 at h
 refine fI func171 λ_ _=>?_
 exact Rcx 14 q (FB h)

theorem f172_c{a0:Int}{b1:Int}:Pu prog 172 [.i .i64 a0, .i .i64 b1] (.b (f172 a0 b1)):=by
 generalize h:f172 a0 b1=r
 unfold f172 at h
 refine fI func172 λ_ _=>?_
 exact Rcx 14 q (FB h)

theorem f173_c{a0:Int}{b1:Int}:Pu prog 173 [.i .i64 a0, .i .i64 b1] (.b (f173 a0 b1)):=by
 generalize h:f173 a0 b1=r
 unfold f173 at h
 refine fI func173 λ_ _=>?_
 exact Rcx 14 q (FB h)

theorem f174_c{a0:Int}{b1:Int}:Pu prog 174 [.i .i64 a0, .i .i64 b1] (.i .i64 (f174 a0 b1)):=by
 generalize h:f174 a0 b1=r
 unfold f174 at h
 refine fI func174 λ_ _=>?_
 exact Rcl 9 q (Zq (jd q q q) q (Rlx 4 q (FB h)))

theorem f175_c{a0:Int}{b1:Int}:Pu prog 175 [.i .i64 a0, .i .i64 b1] (.i .i64 (f175 a0 b1)):=by
 generalize h:f175 a0 b1=r
 unfold f175 at h
 refine fI func175 λ_ _=>?_
 exact Rcl 9 q (Zq (vK q q q) q (Rlx 4 q (FB h)))

theorem f176_c{a0:Int}{b1:Int}:Pu prog 176 [.i .i64 a0, .i .i64 b1] (.i .i64 (f176 a0 b1)):=by
 generalize h:f176 a0 b1=r
 unfold f176 at h
 refine fI func176 λ_ _=>?_
 exact Rcl 9 q (Zq (mf q q q) q (Rlx 4 q (FB h)))

theorem f177_c{a0:Int}{p1:Int}:Pu prog 177 [.i .i64 a0, .i .i64 p1] (.i .i64 (f177 a0 p1)):=by
 generalize h:f177 a0 p1=r
 unfold f177 at h
 refine fI func177 λ_ _=>?_
 exact Rcx 13 q (FB h)

theorem f178_c{a0:Int}{p1:Int}:Pu prog 178 [.i .i64 a0, .i .i64 p1] (.i .i64 (f178 a0 p1)):=by
 generalize h:f178 a0 p1=r
 unfold f178 at h
 refine fI func178 λ_ _=>?_
 exact Rcl 10 q (Zq (eU q q q) q (Rlx 4 q (FB h)))

theorem f179_c{a0:Int}{p1:Int}:Pu prog 179 [.i .i64 a0, .i .i64 p1] (.i .i64 (f179 a0 p1)):=by
 generalize h:f179 a0 p1=r
 unfold f179 at h
 refine fI func179 λ_ _=>?_
 exact Rcx 13 q (FB h)

theorem f166_c{a0:Int}{b1:Int}{r:Int}(h:f166 a0 b1=some r):Pu prog 166 [.i .i64 a0, .i .i64 b1] (.i .i64 r):=by
 unfold f166 at h
 refine fI func166 λ_ _=>?_
 refine Rcl 10 q ?_
 replace h:=aD h
 obtain⟨a,h⟩:=h
 refine Zq (sw q q (oF a)) q (Rll 8 q ?_)
 apply WL.or 5 (t:=11) (d:=16)
 exact q
 intro e
 exact Rl 2 q (Zy (mf q q q) q q q (Rl 2 q (WL.nil ⟨q,[_,_,_,_,_],q,q,q⟩)))
 exact Rn 5 5
 refine Rlc 2 q (Ci h q (λh=>Rcx 8 q (FA h)) λh=>?_)
 refine Rcl 6 q ?_
 replace h:=aD h
 obtain⟨c,h⟩:=h
 exact Zq (sw q q (oF c)) q (Rlx 6 q (FA h))

theorem f103_c(a0:aa):Pu prog 103 [.ag (R42 a0)] (.b (f103 a0)):=by
 generalize h:f103 a0=r
 unfold f103 at h
 refine fI func103 λ_ _=>?_
 exact Rcl 2 q (Bd q q (Zs _) q (Rlx 14 q (FB h)))

theorem f114_c:Pu prog 114 [] (.ag (R42 (f114 ))):=by
 generalize h:f114=r
 unfold f114 at h
 refine fI func114 λ_ _=>?_
 refine Rcl 2 q (Al z42 q (Rll 4 q (Zq (ac p42 z42 q q) q (sS Z6 s42 Z2 (Rlx 3 q ?_)))))
 subst h
 exact am (rs1 q (aZ q q a42 s42 q)) (ak (Zs _))

theorem f131_c{a:Int}:Pu prog 131 [.i .u8 a] (.b (f131 a)):=by
 generalize h:f131 a=r
 unfold f131 at h
 refine fI func131 λ_ _=>?_
 refine Rcl 10 q ?_
 refine AG 3 5 8 3 3 ?_
 exact Rlx 4 q (FB h)

theorem f115_c{c:Int}{a:lI}{r:aa}(h:f115 c a=some r):Pu prog 115 [.i .i64 c, .sl (List.map E2 a)] (.ag (R42 r)):=by
 unfold f115 at h
 refine fI func115 λ_ _=>?_
 refine Rcl 2 q (Al z42 q (Rll 6 q (Zq (ac p42 z42 q q) q (Al z42 q (sS Z6 s42 Z2 (Rlc 2 q (Jn2 (λ_ _=> [(4, .pt 0 0),(5, .pt 1 0)]) (λc10v32 c11v33=> [.row 42 [.n 0, .n 0], .row 42 [.n c10v32, .n c11v33]]) h (λf h=>?_) λc10v32 c11v33 h=>?_)))))))
 refine Rcl 3 q (Zq (ab E2 a e71 q q Zl) q (Rlc 4 q (Ln3 (λe _ _=> [(4, .pt 0 0),(5, .pt 1 0),(11, .l E2 a),(12, .n (List.length a:Int)),(13, .n e)]) (λ_ c10v39 c11v40=> [.row 42 [.n 0, .n 0], .row 42 [.n c10v39, .n c11v40]]) (f115_l1 a f) h (λ_ _ _ h=>by rw[f115_l1] at h;cases h) λn e c10v39 c11v40 h=>?_)))
 rw[f115_l1] at h
 refine Rcc 6 q (Ci h q (λh=>?_) λh=>?_)
 exact Rcl 6 q (Ix h e71 fg q Zl q q λg _ h=>(Rll 8 q (Zq (gG q q q) q (Rl 3 q (Zq (eU q q q) q (Rl 1 q (sS Z6 s2 Z2 (Rl 1 q (sS Z6 s2 Z2 (Rlx 7 q (Fn3 h)))))))))))
 exact Rcx 4 q (En2 h)
 refine Rcl 3 q (sS Z6 s42 Z2 (Rlx 3 q ?_))
 obtain rfl:=Oi h
 exact am (rs1 q (aZ q q a42 s42 q)) (ak (Zs _))

theorem f87_c{a0:aa}{b1:aa}{r:aa}(h:f87 a0 b1=some r):Pu prog 87 [.ag (R42 a0), .ag (R42 b1)] (.ag (R42 r)):=by
 unfold f87 at h
 refine fI func87 λ_ _=>?_
 refine Rcl 2 q (Bd q q (Zs _) q (Bd q q (Zs _) q (Al z42 q (Rll 7 q (wF Z4 (f103_c _) Lw Z3 (Rl 1 q ?_))))))
 apply WL.and 3 (t:=8) (d:=11)
 exact q
 intro c
 exact Rl 1 q (WL.fn q q q q (f103_c _) Lw (aG q q q) q q (Rl 1 q (WL.nil ⟨q,[_,_,_],q,q,q⟩)))
 exact Rn 3 3
 refine Rlc 3 q (Ci h q (λh=>?_) λh=>?_)
 refine Rcl 2 q (WL.fn q q q q (f114_c) Zt (Zw q) q q (sS Z6 s42 Z2 (Rlx 5 q ?_)))
 obtain rfl:=Oi h
 exact am (rs1 q (aZ q q a42 s42 q)) (ak (Zs _))
 refine Rcl 3 q (wF Z4 (f103_c _) Lw Z3 (Rlc 3 q (Ci h q (λh=>?_) λh=>?_)))
 refine Rcl 3 q (sS Z6 s42 Z2 (Rlx 5 q ?_))
 obtain rfl:=Oi h
 exact am (rs1 q (aZ q q a42 s42 q)) (ak (Zs _))
 refine Rcl 3 q (wF Z4 (f103_c _) Lw Z3 (Rlc 3 q (Ci h q (λh=>?_) λh=>?_)))
 refine Rcl 3 q (sS Z6 s42 Z2 (Rlx 5 q ?_))
 obtain rfl:=Oi h
 exact am (rs1 q (aZ q q a42 s42 q)) (ak (Zs _))
 refine Rcl 13 q (WL.s ((NewOs.b (ad l71 z2 q dC dC q q q dC)).does) (Zw q) q q ?_)
 refine WL.freezeX [29] [] 1 _ q (ai fg [a0.hi,b1.lo,b1.hi]) ⟨q,Zt⟩ Zt ?_
 obtain⟨e,a,h⟩:=ae h
 refine wF Z4 (f115_c a) Lw Z3 (sS Z6 s42 Z2 (Rlx 3 q ?_))
 obtain rfl:=Oi h
 exact am (rs1 q (aZ q q a42 s42 q)) (ak (Zs _))

theorem f124_c:Pu prog 124 [] (.ag (R42 (f124 ))):=by
 generalize h:f124=r
 unfold f124 at h
 refine fI func124 λ_ _=>?_
 refine Rcl 2 q (Al z42 q (Rll 4 q (Zq (ac p42 z42 q q) q (sS Z6 s42 Z2 (Rlx 3 q ?_)))))
 subst h
 exact am (rs1 q (aZ q q a42 s42 q)) (ak (Zs _))

theorem f132_c(e:Int→Int→Option (Int×Bool))(l1:lI)(m2:lI)(g0:FuncId)(a c:lD)(m:∀(y0:Int)(y1:Int)(r:Int×Bool),e y0 y1=some r→Pu prog g0 (a++ [.i .i64 y0, .i .i64 y1]++c) (.tu [.i .i64 r.1, .b r.2])){r:aa}(h:f132 e l1 m2=some r):Pu prog 132 [.fnc (.func g0) a c, .sl (List.map E2 l1), .sl (List.map E2 m2)] (.ag (R42 r)):=by
 unfold f132 at h
 refine fI func132 λ_ _=>?_
 refine WC.cast 0 q (gv _ _ _) (Rcl 2 q (Al z42 q (Rll 4 q (WL.fn q q q q (f114_c) Zt (Zw q) q q (Al z42 q (sS Z6 s42 Z2 (Rlc 2 q (Jn2 (λ_ _=> [(6, .pt 0 0),(7, .pt 1 0)]) (λc10v48 c11v49=> [.row 42 [.n 0, .n 0], .row 42 [.n c10v48, .n c11v49]]) h (λp h=>?_) λc10v48 c11v49 h=>?_))))))))
 refine Rcl 3 q (Zq (ab E2 l1 e71 q q Zl) q (Rlc 4 q (Ln3 (λf _ _=> [(0, .fn (.func g0) (List.map AV.d a) (List.map AV.d c)),(2, .l E2 m2),(6, .pt 0 0),(7, .pt 1 0),(15, .l E2 l1),(16, .n (List.length l1:Int)),(17, .n f)]) (λ_ c10v55 c11v56=> [.row 42 [.n 0, .n 0], .row 42 [.n c10v55, .n c11v56]]) (f132_l1 e l1 m2 p) h (λ_ _ _ h=>by rw[f132_l1] at h;cases h) λn f c10v55 c11v56 h=>?_)))
 rw[f132_l1] at h
 refine Rcc 6 q (Ci h q (λh=>?_) λh=>?_)
 refine Rcc 2 q (Jn2 (λ_ _=> [(0, .fn (.func g0) (List.map AV.d a) (List.map AV.d c)),(2, .l E2 m2),(6, .pt 0 0),(7, .pt 1 0),(15, .l E2 l1),(16, .n (List.length l1:Int)),(17, .n f)]) (λc10v60 c11v61=> [.row 42 [.n 0, .n 0], .row 42 [.n c10v60, .n c11v61]]) h (λt h=>?_) λc10v60 c11v61 h=>?_)
 refine Rcl 3 q (Ix h e71 fg q Zl q q λg _ h=>(Rll 7 q (Zq (ab E2 m2 e71 q q Zl) q (Rlc 4 q (Ln3 (λj _ _=> [(0, .fn (.func g0) (List.map AV.d a) (List.map AV.d c)),(2, .l E2 m2),(6, .pt 0 0),(7, .pt 1 0),(9, .n g),(15, .l E2 l1),(16, .n (List.length l1:Int)),(17, .n f),(21, .l E2 m2),(22, .n (List.length m2:Int)),(23, .n j)]) (λ_ c10v68 c11v69=> [.row 42 [.n 0, .n 0], .row 42 [.n c10v68, .n c11v69]]) (f132_l2 e m2 t g) h (λ_ _ _ h=>by rw[f132_l2] at h;cases h) λna j c10v68 c11v69 h=>?_)))))
 rw[f132_l2] at h
 refine Rcc 6 q (Ci h q (λh=>?_) λh=>?_)
 refine Rcl 6 q (Ix h e71 fg q Zl q q λA _ h=>(Rll 9 q ?_))
 obtain⟨B,w,h⟩:=ae h
 refine WL.fn q q q q (m _ _ _ w) (kH Lw) (Zw q) q q (Rlc 14 q (Ci h q (λh=>?_) λh=>?_))
 refine Rcl 2 q (WL.fn q q q q (f124_c) Zt (Zw q) q q (sS Z6 s42 Z2 (Rlx 13 q ?_)))
 obtain rfl:=Oi h
 exact am (rs1 q (aZ q q a42 s42 q)) (ak (Zs _))
 refine Rcc 2 q ?_
 obtain⟨C,x,h⟩:=ae h
 obtain⟨k,y,h⟩:=ae h
 apply RT [_,_,_,_, .u] [4] [[.row 42 [.n 0, .n 0], .row 42 [.n k.lo, .n k.hi]]] [p01 7,p01 12,p10 1,p20 0 2,p11 3 7] kR kR q q
 refine Y2 ?_
 refine zo (λ_=>wF Z4 (f115_c x) ⟨Zl,Le.nil,Zt⟩ Z3 (Zd q q q)) ?_
 refine zo (λ_=>wF Z4 (f87_c y) ⟨(ak (Zs _)),Zl,Zt⟩ Z3 (Zd q q q)) ?_
 exact zo (λ_=>sS Z6 s42 Z2 (aJ q q)) Zt
 exact Rxx 6 q (Fn3 h)
 exact Rcx 5 q (En2 h)
 exact Rcx 4 q (Fn3 h)
 exact Rcx 4 q (En2 h)
 refine Rcl 3 q (sS Z6 s42 Z2 (Rlx 3 q ?_))
 obtain rfl:=Oi h
 exact am (rs1 q (aZ q q a42 s42 q)) (ak (Zs _))

theorem f133_c(x0:Int)(y1:Int):Pu prog 133 [.i .i64 x0, .i .i64 y1] (.tu [.i .i64 (f133 x0 y1).1, .b (f133 x0 y1).2]):=by
 generalize h:f133 x0 y1=r
 unfold f133 at h
 refine fI func133 λ_ _=>?_
 exact Rcl 19 q (Zq (mf q q q) q (Rl 2 q (Zq (mf q q q) q (Zq (jd q q q) q (Rlx 6 q (FB h))))))

theorem f134_c(x0:Int)(y1:Int):Pu prog 134 [.i .i64 x0, .i .i64 y1] (.tu [.i .i64 (f134 x0 y1).1, .b (f134 x0 y1).2]):=by
 generalize h:f134 x0 y1=r
 unfold f134 at h
 refine fI func134 λ_ _=>?_
 exact Rcl 19 q (Zq (mf q q q) q (Rl 2 q (Zq (mf q q q) q (Zq (jd q q q) q (Rlx 6 q (FB h))))))

theorem f149_c{x0:Int}{y1:Int}:Pu prog 149 [.i .u64 x0, .i .u64 y1] (.tu [.i .u64 (f149 x0 y1).1, .i .u64 (f149 x0 y1).2]):=by
 generalize h:f149 x0 y1=r
 unfold f149 at h
 refine fI func149 λ_ _=>?_
 exact Rcl 9 q (Zq (jd q q q) q (Rll 6 q (Zq (kK q q dC) q (Rll 6 q (Zq (jd q q q) q (Rll 6 q (Zq (kK q q dC) q (Rll 17 q (Zq (kK q q dC) q (Rll 7 q (Zq (jd q q q) q (Rll 6 q (Zq (kK q q dC) q (Rll 21 q (Zq (kK q q dC) q (Rlx 13 q (FB h)))))))))))))))))

theorem f150_c{x0:Int}:Pu prog 150 [.i .i64 x0] (.i .u64 (f150 x0)):=by
 generalize h:f150 x0=r
 unfold f150 at h
 refine fI func150 λ_ _=>?_
 exact Rcc 12 q (Ci h q (λh=>Rcx 10 q (FB h)) λh=>Rcx 10 q (FB h))

theorem f135_c(x0:Int)(y1:Int):Pu prog 135 [.i .i64 x0, .i .i64 y1] (.tu [.i .i64 (f135 x0 y1).1, .b (f135 x0 y1).2]):=by
 generalize h:f135 x0 y1=r
 unfold f135 at h
 refine fI func135 λ_ _=>?_
 refine Rcl 9 q (wF Z4 (f150_c) Lw Z3 (Rl 1 q (wF Z4 (f150_c) Lw Z3 (wF Z4 (f149_c) Lw Z3 (Rll 14 q (Zq (y_neb underlying4 q q) q (Rlc 2 q (Ci h q (λh=>?_) λh=>?_))))))))
 refine Rcl 8 q ?_
 refine AG 3 26 29 3 3 ?_
 exact Rlx 6 q (FB h)
 refine Rcl 9 q ?_
 refine AG 3 34 37 3 3 ?_
 exact Rlx 5 q (FB h)

theorem f136_c(x0:Int)(y1:Int){r:Int×Bool}(h:f136 x0 y1=some r):Pu prog 136 [.i .i64 x0, .i .i64 y1] (.tu [.i .i64 r.1, .b r.2]):=by
 unfold f136 at h
 refine fI func136 λ_ _=>?_
 refine Rcl 10 q ?_
 replace h:=aD h
 obtain⟨a,h⟩:=h
 refine Zq (vb q q (oF a) q) q (Rl 3 q ?_)
 refine OG 3 11 14 3 3 ?_
 exact Rlx 5 q (FA h)

theorem f66_c{a0:aa}{v1:Int}:Pu prog 66 [.ag (R42 a0), .i .i64 v1] (.b (f66 a0 v1)):=by
 generalize h:f66 a0 v1=r
 unfold f66 at h
 refine fI func66 λ_ _=>?_
 refine Rcl 2 q (Bd q q (Zs _) q (Rll 10 q ?_))
 refine AG 5 9 14 5 5 ?_
 exact Rlx 4 q (FB h)

theorem f137_c{b0:aa}{r:lI}(h:f137 b0=some r):Pu prog 137 [.ag (R42 b0)] (.sl (List.map E2 r)):=by
 unfold f137 at h
 refine fI func137 λ_ _=>?_
 refine Rcl 2 q (Bd q q (Zs _) q (Rl 1 q (WL.nil_os 2 2 1 q (Rlc 2 q ?_))))
 replace h:=aB h
 obtain⟨m,y,h⟩:=h
 refine cT (λenv' st'=>∃(f:lI),∃(g:Nat),m f=some r∧Sub [(2, .os 0 g)] env'∧SLe st' [.os 2 1 g (eM E2 f), .os 2 1 0 (eM E2 [b0.lo,(-1),1,b0.hi])]) ?_ ?_
 refine Rcl 6 q (WL.s ((NewOs.b (ad l71 z2 q dC dC q q q dC)).does) (Zw q) q q (Zq (gI (a9 E2) [b0.lo,(-1),1,b0.hi] e71 q q q) q (Rlc 4 q (cL (λn env' st'=>∃(a:Int),∃(c:lI),∃(e:Nat),f137_l1 b0 m n a c=some r∧Sub [(1, .d (.pc (R42 b0))),(2, .os 0 e),(9, .os 1 0),(10, .n (List.length [b0.lo,(-1),1,b0.hi]:Int)),(11, .n a)] env'∧SLe st' [.os 2 1 e (eM E2 c), .os 2 1 0 (eM E2 [b0.lo,(-1),1,b0.hi])]) (λn=>n) (Int.toNat ((List.length [b0.lo,(-1),1,b0.hi]:Int) - 0)+1) ⟨0,[],_,h,(Sx q (Sx q (Sx q (Sx q (Sx q (Sub.nil _)))))),⟨Zf,Zf,Zt⟩⟩ ?_))))
 rintro n p w ⟨a,c,e,h,hsub,hst⟩
 rcases n with _|n
 rw[f137_l1] at h;cases h
 rw[f137_l1] at h
 refine WC.sub hsub (WC.weak hst ?_)
 refine Rcc 6 q (Ci h q (λh=>?_) λh=>?_)
 refine Rcc 2 q ?_
 replace h:=aB h
 obtain⟨A,B,h⟩:=h
 refine cT (λenv' st'=>∃(j:lI),∃(k:Nat),A j=some r∧Sub [(1, .d (.pc (R42 b0))),(2, .os 0 k),(9, .os 1 0),(10, .n (List.length [b0.lo,(-1),1,b0.hi]:Int)),(11, .n a)] env'∧SLe st' [.os 2 1 k (eM E2 j), .os 2 1 0 (eM E2 [b0.lo,(-1),1,b0.hi])]) ?_ ?_
 refine Rcl 3 q ?_
 obtain⟨C,x,h⟩:=ae h
 refine Zq (lU e71 q q q x) q (Zq (iI (fo:=0) q q q a2 (λ_=>q) x q) q (Rll 8 q ?_))
 apply WL.and 4 (t:=17) (d:=21)
 exact q
 intro F
 exact Rl 2 q (WL.fn q q q q (f66_c) Lw (aG q q q) q q (Rl 1 q (WL.nil ⟨q,[_,_,_,_],q,q,q⟩)))
 exact Rn 4 4
 refine Rlc 2 q (Ci h q (λh=>?_) λh=>?_)
 refine Rcl 3 q (WL.s ((NewOs.b (ad l71 z2 q dC dC q q q dC)).does) (Zw q) q q ?_)
 replace h:=aD h
 obtain⟨E,h⟩:=h
 exact WL.s (dx E2 c [C] l71 z2 q dC q q q q (Src.own q) (λ_=>q) (λ_=>q) E) (Zw q) q q (Rlx 3 q (WE.drop 2 (env':=[(1, .d (.pc (R42 b0))),(2, .os 0 (e+1)),(9, .os 1 0),(10, .n (List.length [b0.lo,(-1),1,b0.hi]:Int)),(11, .n a)]) Sb q Kv (Nat.zero_le _) (En2 h)))
 exact Rcx 2 q (En2 h)
 rintro p w ⟨j,k,h,hsub,hst⟩
 subst B
 dsimp only at h
 refine WC.sub hsub (WC.weak hst ?_)
 exact Rcx 4 q (Fn3 h)
 exact Rcx 4 q (En2 h)
 rintro p w ⟨f,g,h,hsub,hst⟩
 subst y
 dsimp only at h
 refine WC.sub hsub (WC.weak hst ?_)
 refine Rcx 7 q ?_
 exact WE.freezeX [2,27] [] 0 _ q (ai fg _) ⟨q,q,Zt⟩ Zt (FA h)

theorem f138_c{a0:aa}{b1:aa}:Pu prog 138 [.ag (R42 a0), .ag (R42 b1)] (.ag (R42 (f138 a0 b1))):=by
 generalize h:f138 a0 b1=r
 unfold f138 at h
 refine fI func138 λ_ _=>?_
 refine Rcl 2 q (Bd q q (Zs _) q (Bd q q (Zs _) q (Al z42 q (Rlc 3 q (av kR kR (Rq 2 q (WQ.q (YieldsQ.fn q q q q q (f150_c) Lw) (Zw q) q q (Rq 2 q (WQ.q (YieldsQ.fn q q q q q (f150_c) Lw) (Zw q) q q (WQ.qn (eU q q q) q (Rq 3 q (WQ.nil (Rxl 7 q (Zq (eU q q q) q (Zq (gG q q q) q (Rl 3 q (Zq (gG q q q) q (Zq (eU q q q) q (Zq (ac p42 z42 q q) q (sS Z6 s42 Z2 (Rlx 3 q ?_)))))))))))))))))))))
 subst h
 exact am (rs1 q (aZ q q a42 s42 q)) (ak (Zs _))

theorem f139_c{a0:aa}{b1:aa}:Pu prog 139 [.ag (R42 a0), .ag (R42 b1)] (.ag (R42 (f139 a0 b1))):=by
 generalize h:f139 a0 b1=r
 unfold f139 at h
 refine fI func139 λ_ _=>?_
 refine Rcl 2 q (Bd q q (Zs _) q (Bd q q (Zs _) q (Al z42 q (Rll 4 q (Al z42 q (Rlc 2 q (Jn1 (λ_=> [(2, .d (.pc (R42 a0))),(3, .d (.pc (R42 b1))),(4, .pt 0 0),(5, .pt 1 0)]) (λc11v52=> [.row 42 [.n 0, .n 0], .row 42 [.n 0, .n c11v52]]) h (λ_ h=>?_) λc11v52 h=>?_)))))))
 refine Rcc 7 q (Ci h q (λh=>?_) λh=>?_)
 refine Rcl 6 q (sS Z6 s2 Z2 (Rll 8 q ?_))
 refine AG 4 16 20 4 4 ?_
 exact Rlc 2 q (Ci h q (λh=>Rcl 5 q (Zq (gG q q q) q (Rl 1 q (sS Z6 s2 Z2 (Rlx 1 q (En1 h)))))) λh=>Rcx 1 q (En1 h))
 exact Rcx 1 q (En1 h)
 refine Jn1 (λ_=> [(4, .pt 0 0),(5, .pt 1 0)]) (λc10v54=> [.row 42 [.n 0, .n 0], .row 42 [.n c10v54, .n c11v52]]) h (λ_ h=>?_) (λc10v54 h=>?_)
 refine Rcc 7 q (Ci h q (λh=>?_) λh=>?_)
 refine Rcl 6 q (sS Z6 s2 Z2 (Rll 8 q ?_))
 refine AG 4 37 41 4 4 ?_
 exact Rlc 2 q (Ci h q (λh=>Rcl 5 q (Zq (eU q q q) q (Rl 1 q (sS Z6 s2 Z2 (Rlx 1 q (En1 h)))))) λh=>Rcx 1 q (En1 h))
 exact Rcx 1 q (En1 h)
 refine Rcl 3 q (sS Z6 s42 Z2 (Rlx 3 q ?_))
 subst h
 exact am (rs1 q (aZ q q a42 s42 q)) (ak (Zs _))

theorem f151_c{a:List Bool}{r:Bool}(h:f151 a=some r):Pu prog 151 [.sl (List.map E4 a)] (.b r):=by
 unfold f151 at h
 refine fI func151 λ_ _=>?_
 refine Rcc 5 q (Jn0 [] [] h (λe h=>?_) λh=>?_)
 refine Rcl 3 q (Zq (ab E4 a e218 q q Zl) q (Rlc 4 q (Ln1 (λc=> [(5, .l E4 a),(6, .n (List.length a:Int)),(7, .n c)]) (λ_=> []) (f151_l1 a e) h (λ_ h=>by rw[f151_l1] at h;cases h) λn c h=>?_)))
 rw[f151_l1] at h
 refine Rcc 6 q (Ci h q (λh=>?_) λh=>?_)
 refine Rcl 6 q (Ix h e218 lQ q Zl q q λf _ h=>(Rlc 9 q (Ci h q (λh=>?_) λh=>?_)))
 exact Rcx 11 q (FA h)
 exact Rcx 7 q (Fn1 h)
 exact Rcx 4 q (En0 h)
 exact Rcx 6 q (FA h)

theorem f152_c{a:Bool}:Pu prog 152 [.b a] (.i .i64 (f152 a)):=by
 generalize h:f152 a=r
 unfold f152 at h
 refine fI func152 λ_ _=>?_
 exact Rcc 11 q (Ci h q (λh=>Rcx 7 q (FB h)) λh=>Rcx 8 q (FB h))

theorem f140_c{a:Int}{a1:aa}{b2:aa}{r:aa}(h:f140 a a1 b2=some r):Pu prog 140 [.i .u8 a, .ag (R42 a1), .ag (R42 b2)] (.ag (R42 r)):=by
 unfold f140 at h
 refine fI func140 λ_ _=>?_
 refine Rcl 2 q (Bd q q (Zs _) q (Bd q q (Zs _) q (Al z42 q (Rlc 3 q (av kR kR (Rq 9 q (WQ.qn (eU q q q) q (Rq 4 q (WQ.qn (gG q q q) q (Rq 9 q (WQ.nil (Rxc 12 q (Jn2 (λc e=> [(6, .pt 0 0),(11, .d (D.b c)),(12, .d (D.b e))]) (λ_ _=> [.row 42 [.n 0, .n 0], .z]) h (λ_ h=>?_) λc e h=>?_)))))))))))))
 refine Rcc 12 q (Ci h q (λh=>?_) λh=>?_)
 refine Rcl 5 q (WL.s ((NewOs.b (ad rU z4 q dC dC q q q dC)).does) (Zw q) q q ?_)
 refine WL.freezeX [47] [] 1 _ q (ai lQ [(decide (a1.lo<b2.hi)),(decide (a1.hi>b2.lo))]) ⟨q,Zt⟩ Zt ?_
 obtain⟨t,f,h⟩:=ae h
 exact wF Z4 (f151_c f) Lw Z3 (Rlx 4 q (En2 h))
 refine Rcc 6 q (Ci h q (λh=>?_) λh=>?_)
 refine Rcl 4 q (WL.s ((NewOs.b (ad rU z4 q dC dC q q q dC)).does) (Zw q) q q ?_)
 refine WL.freezeX [54] [] 1 _ q (ai lQ [(decide (a1.lo<b2.hi)),(decide (a1.hi>b2.lo))]) ⟨q,Zt⟩ Zt ?_
 obtain⟨w,g,h⟩:=ae h
 exact wF Z4 (f151_c g) Lw Z3 (Rlx 5 q (En2 h))
 refine Rcc 6 q (Ci h q (λh=>?_) λh=>?_)
 refine Rcl 5 q (WL.s ((NewOs.b (ad rU z4 q dC dC q q q dC)).does) (Zw q) q q ?_)
 refine WL.freezeX [63] [] 1 _ q (ai lQ [(decide ((if b2.lo>a1.lo then b2.lo else a1.lo)≤(if b2.hi<a1.hi then b2.hi else a1.hi))),(decide (a1.hi>b2.lo))]) ⟨q,Zt⟩ Zt ?_
 obtain⟨x,j,h⟩:=ae h
 exact wF Z4 (f151_c j) Lw Z3 (Rlx 4 q (En2 h))
 refine Rcc 6 q (Ci h q (λh=>?_) λh=>?_)
 refine Rcl 4 q (WL.s ((NewOs.b (ad rU z4 q dC dC q q q dC)).does) (Zw q) q q ?_)
 refine WL.freezeX [70] [] 1 _ q (ai lQ [(decide (a1.lo<b2.hi)),(decide ((if b2.lo>a1.lo then b2.lo else a1.lo)≤(if b2.hi<a1.hi then b2.hi else a1.hi)))]) ⟨q,Zt⟩ Zt ?_
 obtain⟨y,k,h⟩:=ae h
 exact wF Z4 (f151_c k) Lw Z3 (Rlx 5 q (En2 h))
 refine Rcc 6 q (Ci h q (λh=>?_) λh=>?_)
 refine Rcl 5 q (WL.s ((NewOs.b (ad rU z4 q dC dC q q q dC)).does) (Zw q) q q ?_)
 refine WL.freezeX [79] [] 1 _ q (ai lQ [(decide (a1.lo<b2.hi)),(decide ((if b2.lo>a1.lo then b2.lo else a1.lo)≤(if b2.hi<a1.hi then b2.hi else a1.hi)))]) ⟨q,Zt⟩ Zt ?_
 obtain⟨A,m,h⟩:=ae h
 exact wF Z4 (f151_c m) Lw Z3 (Rlx 4 q (En2 h))
 refine Rcl 4 q (WL.s ((NewOs.b (ad rU z4 q dC dC q q q dC)).does) (Zw q) q q ?_)
 refine WL.freezeX [38] [] 1 _ q (ai lQ [(decide ((if b2.lo>a1.lo then b2.lo else a1.lo)≤(if b2.hi<a1.hi then b2.hi else a1.hi))),(decide (a1.hi>b2.lo))]) ⟨q,Zt⟩ Zt ?_
 obtain⟨B,p,h⟩:=ae h
 exact wF Z4 (f151_c p) Lw Z3 (Rlx 5 q (En2 h))
 refine Rcl 4 q (wF Z4 (f152_c) Lw Z3 (Rl 1 q (wF Z4 (f152_c) Lw Z3 (Zq (ac p42 z42 q q) q (sS Z6 s42 Z2 (Rlx 3 q ?_))))))
 obtain rfl:=Oi h
 exact am (rs1 q (aZ q q a42 s42 q)) (ak (Zs _))

theorem f65_c(a0:aa)(b1:aa):Pu prog 65 [.ag (R42 a0), .ag (R42 b1)] (.b (f65 a0 b1)):=by
 generalize h:f65 a0 b1=r
 unfold f65 at h
 refine fI func65 λ_ _=>?_
 refine Rcl 2 q (Bd q q (Zs _) q (Bd q q (Zs _) q (Rll 6 q (wF Z4 (f103_c _) Lw Z3 (Rl 1 q ?_)))))
 apply WL.or 13 (t:=7) (d:=20)
 exact q
 intro a
 refine Rl 6 q ?_
 refine AG 6 13 19 6 6 ?_
 exact Rn 1 8
 exact Rn 13 13
 exact Rlx 4 q (FB h)

theorem f154_c{a:Int}{a1:Int}{b2:Int}{r:Int×Bool}(h:f154 a a1 b2=some r):Pu prog 154 [.i .u8 a, .i .i64 a1, .i .i64 b2] (.tu [.i .i64 r.1, .b r.2]):=by
 unfold f154 at h
 refine fI func154 λ_ _=>?_
 refine Rcc 19 q (Ci h q (λh=>Rcx 12 q (FA h)) λh=>?_)
 refine Rcc 6 q (Ci h q (λh=>Rcx 12 q (FA h)) λh=>?_)
 refine Rcl 5 q ?_
 obtain⟨bs,b0,h⟩:=aB h
 refine WL.inl (us:=[]) (λrv st'=>(bs ()=some r∧Le rv (.mp 0)∧SLe st' [mpO (λx:Int=>Value.int .u8 x) (λx:AV=>x) [fe 1 180 1,fe 2 180 2,fe 3 180 3,fe 4 181 4,fe 5 181 5,fe 6 181 6,fe 7 182 7,fe 8 182 8,fe 9 182 9,fe 10 182 10,fe 11 182 11,fe 12 182 12,fe 13 180 13,fe 14 180 14,fe 15 180 15,fe 16 180 16,fe 17 180 17,fe 18 180 18],rF 243 160,rF 243 161,rF 243 162,rF 243 164,rF 243 165,rF 243 166,rF 160 168,rF 160 169,rF 160 170,rF 160 171,rF 160 172,rF 160 173,rF 243 174,rF 243 175,rF 243 176,rF 243 177,rF 243 178,rF 243 179])) q q q q q ?_ (Zw q) q q ?_
 refine cI func156 λ_ _ _ _=>?_
 refine Rcl 7 q (WL.s ((eS (α:=AV) (λx:Int=>Value.int .u8 x) λx:AV=>x).does) (Zw q) q q ?_)
 obtain⟨b1,b3,h⟩:=aB h
 refine WL.inl (us:=[.fn (.func 160) [] []]) (λrv st'=>(b1 ()=some r∧Le rv (.fn (.func 180) [] [.pt 1 0])∧SLe st' [mpO (λx:Int=>Value.int .u8 x) (λx:AV=>x) [],rF 243 160])) q q q q q ?_ (Zw q) q q ?_
 refine cI func159 λ_ _ _ _=>?_
 exact Rcl 2 q (Bx q q q (Rlx 10 q (ax (rs1 q (aR q)) ⟨h,Zl,⟨q,Zp,Zt⟩⟩)))
 rintro rv c ⟨h,hr,hst⟩
 subst b3
 dsimp only at h
 refine WL.cast 2 q hr (WL.weak hst (WL.s0 (bq (λx:Int=>Value.int .u8 x) (λx:AV=>x) _ (u:= .fn (.func 180) [] [.pt 1 0]) (.inl q) underlying229 underlying90 (KeyF.int .u8) q q q q) (Zw q) q ?_))
 obtain⟨b4,b5,h⟩:=aB h
 refine WL.inl (us:=[.fn (.func 161) [] []]) (λrv st'=>(b4 ()=some r∧Le rv (.fn (.func 180) [] [.pt 2 0])∧SLe st' [mpO (λx:Int=>Value.int .u8 x) (λx:AV=>x) [fe 1 180 1],rF 243 160,rF 243 161])) q q q q q ?_ (Zw q) q q ?_
 refine cI func159 λ_ _ _ _=>?_
 exact Rcl 2 q (Bx q q q (Rlx 10 q (ax (rs1 q (aR q)) ⟨h,Zl,⟨q,Zp,Zp,Zt⟩⟩)))
 rintro rv c ⟨h,hr,hst⟩
 subst b5
 dsimp only at h
 refine WL.cast 3 q hr (WL.weak hst (WL.s0 (bq (λx:Int=>Value.int .u8 x) (λx:AV=>x) _ (u:= .fn (.func 180) [] [.pt 2 0]) (.inl q) underlying229 underlying90 (KeyF.int .u8) q q q q) (Zw q) q ?_))
 obtain⟨b6,b7,h⟩:=aB h
 refine WL.inl (us:=[.fn (.func 162) [] []]) (λrv st'=>(b6 ()=some r∧Le rv (.fn (.func 180) [] [.pt 3 0])∧SLe st' [mpO (λx:Int=>Value.int .u8 x) (λx:AV=>x) [fe 1 180 1,fe 2 180 2],rF 243 160,rF 243 161,rF 243 162])) q q q q q ?_ (Zw q) q q ?_
 refine cI func159 λ_ _ _ _=>?_
 exact Rcl 2 q (Bx q q q (Rlx 10 q (ax (rs1 q (aR q)) ⟨h,Zl,⟨q,Zp,Zp,Zp,Zt⟩⟩)))
 rintro rv c ⟨h,hr,hst⟩
 subst b7
 dsimp only at h
 refine WL.cast 4 q hr (WL.weak hst (WL.s0 (bq (λx:Int=>Value.int .u8 x) (λx:AV=>x) _ (u:= .fn (.func 180) [] [.pt 3 0]) (.inl q) underlying229 underlying90 (KeyF.int .u8) q q q q) (Zw q) q ?_))
 obtain⟨b8,b9,h⟩:=aB h
 refine WL.inl (us:=[.fn (.func 164) [] []]) (λrv st'=>(b8 ()=some r∧Le rv (.fn (.func 181) [] [.pt 4 0])∧SLe st' [mpO (λx:Int=>Value.int .u8 x) (λx:AV=>x) [fe 1 180 1,fe 2 180 2,fe 3 180 3],rF 243 160,rF 243 161,rF 243 162,rF 243 164])) q q q q q ?_ (Zw q) q q ?_
 refine cI func163 λ_ _ _ _=>?_
 exact Rcl 2 q (Bx q q q (Rlx 10 q (ax (rs1 q (aR q)) ⟨h,Zl,⟨q,Zp,Zp,Zp,Zp,Zt⟩⟩)))
 rintro rv c ⟨h,hr,hst⟩
 subst b9
 dsimp only at h
 refine WL.cast 5 q hr (WL.weak hst (WL.s0 (bq (λx:Int=>Value.int .u8 x) (λx:AV=>x) _ (u:= .fn (.func 181) [] [.pt 4 0]) (.inl q) underlying229 underlying90 (KeyF.int .u8) q q q q) (Zw q) q ?_))
 obtain⟨b',ca,h⟩:=aB h
 refine WL.inl (us:=[.fn (.func 165) [] []]) (λrv st'=>(b' ()=some r∧Le rv (.fn (.func 181) [] [.pt 5 0])∧SLe st' [mpO (λx:Int=>Value.int .u8 x) (λx:AV=>x) [fe 1 180 1,fe 2 180 2,fe 3 180 3,fe 4 181 4],rF 243 160,rF 243 161,rF 243 162,rF 243 164,rF 243 165])) q q q q q ?_ (Zw q) q q ?_
 refine cI func163 λ_ _ _ _=>?_
 exact Rcl 2 q (Bx q q q (Rlx 10 q (ax (rs1 q (aR q)) ⟨h,Zl,⟨q,Zp,Zp,Zp,Zp,Zp,Zt⟩⟩)))
 rintro rv c ⟨h,hr,hst⟩
 subst ca
 dsimp only at h
 refine WL.cast 6 q hr (WL.weak hst (WL.s0 (bq (λx:Int=>Value.int .u8 x) (λx:AV=>x) _ (u:= .fn (.func 181) [] [.pt 5 0]) (.inl q) underlying229 underlying90 (KeyF.int .u8) q q q q) (Zw q) q ?_))
 obtain⟨cb,cc,h⟩:=aB h
 refine WL.inl (us:=[.fn (.func 166) [] []]) (λrv st'=>(cb ()=some r∧Le rv (.fn (.func 181) [] [.pt 6 0])∧SLe st' [mpO (λx:Int=>Value.int .u8 x) (λx:AV=>x) [fe 1 180 1,fe 2 180 2,fe 3 180 3,fe 4 181 4,fe 5 181 5],rF 243 160,rF 243 161,rF 243 162,rF 243 164,rF 243 165,rF 243 166])) q q q q q ?_ (Zw q) q q ?_
 refine cI func163 λ_ _ _ _=>?_
 exact Rcl 2 q (Bx q q q (Rlx 10 q (ax (rs1 q (aR q)) ⟨h,Zl,⟨q,Zp,Zp,Zp,Zp,Zp,Zp,Zt⟩⟩)))
 rintro rv c ⟨h,hr,hst⟩
 subst cc
 dsimp only at h
 refine WL.cast 7 q hr (WL.weak hst (WL.s0 (bq (λx:Int=>Value.int .u8 x) (λx:AV=>x) _ (u:= .fn (.func 181) [] [.pt 6 0]) (.inl q) underlying229 underlying90 (KeyF.int .u8) q q q q) (Zw q) q ?_))
 obtain⟨cd,cf,h⟩:=aB h
 refine WL.inl (us:=[.fn (.func 168) [] []]) (λrv st'=>(cd ()=some r∧Le rv (.fn (.func 182) [] [.pt 7 0])∧SLe st' [mpO (λx:Int=>Value.int .u8 x) (λx:AV=>x) [fe 1 180 1,fe 2 180 2,fe 3 180 3,fe 4 181 4,fe 5 181 5,fe 6 181 6],rF 243 160,rF 243 161,rF 243 162,rF 243 164,rF 243 165,rF 243 166,rF 160 168])) q q q q q ?_ (Zw q) q q ?_
 refine cI func167 λ_ _ _ _=>?_
 exact Rcl 2 q (Bx q q q (Rlx 10 q (ax (rs1 q (aR q)) ⟨h,Zl,⟨q,Zp,Zp,Zp,Zp,Zp,Zp,Zp,Zt⟩⟩)))
 rintro rv c ⟨h,hr,hst⟩
 subst cf
 dsimp only at h
 refine WL.cast 8 q hr (WL.weak hst (WL.s0 (bq (λx:Int=>Value.int .u8 x) (λx:AV=>x) _ (u:= .fn (.func 182) [] [.pt 7 0]) (.inl q) underlying229 underlying90 (KeyF.int .u8) q q q q) (Zw q) q ?_))
 obtain⟨ci,cj,h⟩:=aB h
 refine WL.inl (us:=[.fn (.func 169) [] []]) (λrv st'=>(ci ()=some r∧Le rv (.fn (.func 182) [] [.pt 8 0])∧SLe st' [mpO (λx:Int=>Value.int .u8 x) (λx:AV=>x) [fe 1 180 1,fe 2 180 2,fe 3 180 3,fe 4 181 4,fe 5 181 5,fe 6 181 6,fe 7 182 7],rF 243 160,rF 243 161,rF 243 162,rF 243 164,rF 243 165,rF 243 166,rF 160 168,rF 160 169])) q q q q q ?_ (Zw q) q q ?_
 refine cI func167 λ_ _ _ _=>?_
 exact Rcl 2 q (Bx q q q (Rlx 10 q (ax (rs1 q (aR q)) ⟨h,Zl,⟨q,Zp,Zp,Zp,Zp,Zp,Zp,Zp,Zp,Zt⟩⟩)))
 rintro rv c ⟨h,hr,hst⟩
 subst cj
 dsimp only at h
 refine WL.cast 9 q hr (WL.weak hst (WL.s0 (bq (λx:Int=>Value.int .u8 x) (λx:AV=>x) _ (u:= .fn (.func 182) [] [.pt 8 0]) (.inl q) underlying229 underlying90 (KeyF.int .u8) q q q q) (Zw q) q ?_))
 obtain⟨cl,cn,h⟩:=aB h
 refine WL.inl (us:=[.fn (.func 170) [] []]) (λrv st'=>(cl ()=some r∧Le rv (.fn (.func 182) [] [.pt 9 0])∧SLe st' [mpO (λx:Int=>Value.int .u8 x) (λx:AV=>x) [fe 1 180 1,fe 2 180 2,fe 3 180 3,fe 4 181 4,fe 5 181 5,fe 6 181 6,fe 7 182 7,fe 8 182 8],rF 243 160,rF 243 161,rF 243 162,rF 243 164,rF 243 165,rF 243 166,rF 160 168,rF 160 169,rF 160 170])) q q q q q ?_ (Zw q) q q ?_
 refine cI func167 λ_ _ _ _=>?_
 exact Rcl 2 q (Bx q q q (Rlx 10 q (ax (rs1 q (aR q)) ⟨h,Zl,⟨q,Zp,Zp,Zp,Zp,Zp,Zp,Zp,Zp,Zp,Zt⟩⟩)))
 rintro rv c ⟨h,hr,hst⟩
 subst cn
 dsimp only at h
 refine WL.cast 10 q hr (WL.weak hst (WL.s0 (bq (λx:Int=>Value.int .u8 x) (λx:AV=>x) _ (u:= .fn (.func 182) [] [.pt 9 0]) (.inl q) underlying229 underlying90 (KeyF.int .u8) q q q q) (Zw q) q ?_))
 obtain⟨cp,cx,h⟩:=aB h
 refine WL.inl (us:=[.fn (.func 171) [] []]) (λrv st'=>(cp ()=some r∧Le rv (.fn (.func 182) [] [.pt 10 0])∧SLe st' [mpO (λx:Int=>Value.int .u8 x) (λx:AV=>x) [fe 1 180 1,fe 2 180 2,fe 3 180 3,fe 4 181 4,fe 5 181 5,fe 6 181 6,fe 7 182 7,fe 8 182 8,fe 9 182 9],rF 243 160,rF 243 161,rF 243 162,rF 243 164,rF 243 165,rF 243 166,rF 160 168,rF 160 169,rF 160 170,rF 160 171])) q q q q q ?_ (Zw q) q q ?_
 refine cI func167 λ_ _ _ _=>?_
 exact Rcl 2 q (Bx q q q (Rlx 10 q (ax (rs1 q (aR q)) ⟨h,Zl,⟨q,Zp,Zp,Zp,Zp,Zp,Zp,Zp,Zp,Zp,Zp,Zt⟩⟩)))
 rintro rv c ⟨h,hr,hst⟩
 subst cx
 dsimp only at h
 refine WL.cast 11 q hr (WL.weak hst (WL.s0 (bq (λx:Int=>Value.int .u8 x) (λx:AV=>x) _ (u:= .fn (.func 182) [] [.pt 10 0]) (.inl q) underlying229 underlying90 (KeyF.int .u8) q q q q) (Zw q) q ?_))
 obtain⟨cz,c0,h⟩:=aB h
 refine WL.inl (us:=[.fn (.func 172) [] []]) (λrv st'=>(cz ()=some r∧Le rv (.fn (.func 182) [] [.pt 11 0])∧SLe st' [mpO (λx:Int=>Value.int .u8 x) (λx:AV=>x) [fe 1 180 1,fe 2 180 2,fe 3 180 3,fe 4 181 4,fe 5 181 5,fe 6 181 6,fe 7 182 7,fe 8 182 8,fe 9 182 9,fe 10 182 10],rF 243 160,rF 243 161,rF 243 162,rF 243 164,rF 243 165,rF 243 166,rF 160 168,rF 160 169,rF 160 170,rF 160 171,rF 160 172])) q q q q q ?_ (Zw q) q q ?_
 refine cI func167 λ_ _ _ _=>?_
 exact Rcl 2 q (Bx q q q (Rlx 10 q (ax (rs1 q (aR q)) ⟨h,Zl,⟨q,Zp,Zp,Zp,Zp,Zp,Zp,Zp,Zp,Zp,Zp,Zp,Zt⟩⟩)))
 rintro rv c ⟨h,hr,hst⟩
 subst c0
 dsimp only at h
 refine WL.cast 12 q hr (WL.weak hst (WL.s0 (bq (λx:Int=>Value.int .u8 x) (λx:AV=>x) _ (u:= .fn (.func 182) [] [.pt 11 0]) (.inl q) underlying229 underlying90 (KeyF.int .u8) q q q q) (Zw q) q ?_))
 obtain⟨c1,c2,h⟩:=aB h
 refine WL.inl (us:=[.fn (.func 173) [] []]) (λrv st'=>(c1 ()=some r∧Le rv (.fn (.func 182) [] [.pt 12 0])∧SLe st' [mpO (λx:Int=>Value.int .u8 x) (λx:AV=>x) [fe 1 180 1,fe 2 180 2,fe 3 180 3,fe 4 181 4,fe 5 181 5,fe 6 181 6,fe 7 182 7,fe 8 182 8,fe 9 182 9,fe 10 182 10,fe 11 182 11],rF 243 160,rF 243 161,rF 243 162,rF 243 164,rF 243 165,rF 243 166,rF 160 168,rF 160 169,rF 160 170,rF 160 171,rF 160 172,rF 160 173])) q q q q q ?_ (Zw q) q q ?_
 refine cI func167 λ_ _ _ _=>?_
 exact Rcl 2 q (Bx q q q (Rlx 10 q (ax (rs1 q (aR q)) ⟨h,Zl,⟨q,Zp,Zp,Zp,Zp,Zp,Zp,Zp,Zp,Zp,Zp,Zp,Zp,Zt⟩⟩)))
 rintro rv c ⟨h,hr,hst⟩
 subst c2
 dsimp only at h
 refine WL.cast 13 q hr (WL.weak hst (WL.s0 (bq (λx:Int=>Value.int .u8 x) (λx:AV=>x) _ (u:= .fn (.func 182) [] [.pt 12 0]) (.inl q) underlying229 underlying90 (KeyF.int .u8) q q q q) (Zw q) q ?_))
 obtain⟨c',dd,h⟩:=aB h
 refine WL.inl (us:=[.fn (.func 174) [] []]) (λrv st'=>(c' ()=some r∧Le rv (.fn (.func 180) [] [.pt 13 0])∧SLe st' [mpO (λx:Int=>Value.int .u8 x) (λx:AV=>x) [fe 1 180 1,fe 2 180 2,fe 3 180 3,fe 4 181 4,fe 5 181 5,fe 6 181 6,fe 7 182 7,fe 8 182 8,fe 9 182 9,fe 10 182 10,fe 11 182 11,fe 12 182 12],rF 243 160,rF 243 161,rF 243 162,rF 243 164,rF 243 165,rF 243 166,rF 160 168,rF 160 169,rF 160 170,rF 160 171,rF 160 172,rF 160 173,rF 243 174])) q q q q q ?_ (Zw q) q q ?_
 refine cI func159 λ_ _ _ _=>?_
 exact Rcl 2 q (Bx q q q (Rlx 10 q (ax (rs1 q (aR q)) ⟨h,Zl,⟨q,Zp,Zp,Zp,Zp,Zp,Zp,Zp,Zp,Zp,Zp,Zp,Zp,Zp,Zt⟩⟩)))
 rintro rv c ⟨h,hr,hst⟩
 subst dd
 dsimp only at h
 refine WL.cast 14 q hr (WL.weak hst (WL.s0 (bq (λx:Int=>Value.int .u8 x) (λx:AV=>x) _ (u:= .fn (.func 180) [] [.pt 13 0]) (.inl q) underlying229 underlying90 (KeyF.int .u8) q q q q) (Zw q) q ?_))
 obtain⟨df,ds,h⟩:=aB h
 refine WL.inl (us:=[.fn (.func 175) [] []]) (λrv st'=>(df ()=some r∧Le rv (.fn (.func 180) [] [.pt 14 0])∧SLe st' [mpO (λx:Int=>Value.int .u8 x) (λx:AV=>x) [fe 1 180 1,fe 2 180 2,fe 3 180 3,fe 4 181 4,fe 5 181 5,fe 6 181 6,fe 7 182 7,fe 8 182 8,fe 9 182 9,fe 10 182 10,fe 11 182 11,fe 12 182 12,fe 13 180 13],rF 243 160,rF 243 161,rF 243 162,rF 243 164,rF 243 165,rF 243 166,rF 160 168,rF 160 169,rF 160 170,rF 160 171,rF 160 172,rF 160 173,rF 243 174,rF 243 175])) q q q q q ?_ (Zw q) q q ?_
 refine cI func159 λ_ _ _ _=>?_
 exact Rcl 2 q (Bx q q q (Rlx 10 q (ax (rs1 q (aR q)) ⟨h,Zl,⟨q,Zp,Zp,Zp,Zp,Zp,Zp,Zp,Zp,Zp,Zp,Zp,Zp,Zp,Zp,Zt⟩⟩)))
 rintro rv c ⟨h,hr,hst⟩
 subst ds
 dsimp only at h
 refine WL.cast 15 q hr (WL.weak hst (WL.s0 (bq (λx:Int=>Value.int .u8 x) (λx:AV=>x) _ (u:= .fn (.func 180) [] [.pt 14 0]) (.inl q) underlying229 underlying90 (KeyF.int .u8) q q q q) (Zw q) q ?_))
 obtain⟨dS,d0,h⟩:=aB h
 refine WL.inl (us:=[.fn (.func 176) [] []]) (λrv st'=>(dS ()=some r∧Le rv (.fn (.func 180) [] [.pt 15 0])∧SLe st' [mpO (λx:Int=>Value.int .u8 x) (λx:AV=>x) [fe 1 180 1,fe 2 180 2,fe 3 180 3,fe 4 181 4,fe 5 181 5,fe 6 181 6,fe 7 182 7,fe 8 182 8,fe 9 182 9,fe 10 182 10,fe 11 182 11,fe 12 182 12,fe 13 180 13,fe 14 180 14],rF 243 160,rF 243 161,rF 243 162,rF 243 164,rF 243 165,rF 243 166,rF 160 168,rF 160 169,rF 160 170,rF 160 171,rF 160 172,rF 160 173,rF 243 174,rF 243 175,rF 243 176])) q q q q q ?_ (Zw q) q q ?_
 refine cI func159 λ_ _ _ g5=>?_
 exact Rcl 2 q (Bx q q q (Rlx 10 q (ax (rs1 q (aR q)) ⟨h,Zl,⟨q,Zp,Zp,Zp,Zp,Zp,Zp,Zp,Zp,Zp,Zp,Zp,Zp,Zp,Zp,Zp,Zt⟩⟩)))
 rintro rv c ⟨h,hr,hst⟩
 subst d0
 dsimp only at h
 refine WL.cast 16 q hr (WL.weak hst (WL.s0 (bq (λx:Int=>Value.int .u8 x) (λx:AV=>x) _ (u:= .fn (.func 180) [] [.pt 15 0]) (.inl q) underlying229 underlying90 (KeyF.int .u8) q q q q) (Zw q) q ?_))
 obtain⟨d1,d2,h⟩:=aB h
 refine WL.inl (us:=[.fn (.func 177) [] []]) (λrv st'=>(d1 ()=some r∧Le rv (.fn (.func 180) [] [.pt 16 0])∧SLe st' [mpO (λx:Int=>Value.int .u8 x) (λx:AV=>x) [fe 1 180 1,fe 2 180 2,fe 3 180 3,fe 4 181 4,fe 5 181 5,fe 6 181 6,fe 7 182 7,fe 8 182 8,fe 9 182 9,fe 10 182 10,fe 11 182 11,fe 12 182 12,fe 13 180 13,fe 14 180 14,fe 15 180 15],rF 243 160,rF 243 161,rF 243 162,rF 243 164,rF 243 165,rF 243 166,rF 160 168,rF 160 169,rF 160 170,rF 160 171,rF 160 172,rF 160 173,rF 243 174,rF 243 175,rF 243 176,rF 243 177])) q q q q q ?_ (Zw q) q q ?_
 refine cI func159 λ_ _ _ _=>?_
 exact Rcl 2 q (Bx q q q (Rlx 10 q (ax (rs1 q (aR q)) ⟨h,Zl,⟨q,Zp,Zp,Zp,Zp,Zp,Zp,Zp,Zp,Zp,Zp,Zp,Zp,Zp,Zp,Zp,Zp,Zt⟩⟩)))
 rintro rv c ⟨h,hr,hst⟩
 subst d2
 dsimp only at h
 refine WL.cast 17 q hr (WL.weak hst (WL.s0 (bq (λx:Int=>Value.int .u8 x) (λx:AV=>x) _ (u:= .fn (.func 180) [] [.pt 16 0]) (.inl q) underlying229 underlying90 (KeyF.int .u8) q q q q) (Zw q) q ?_))
 obtain⟨d',ea,h⟩:=aB h
 refine WL.inl (us:=[.fn (.func 178) [] []]) (λrv st'=>(d' ()=some r∧Le rv (.fn (.func 180) [] [.pt 17 0])∧SLe st' [mpO (λx:Int=>Value.int .u8 x) (λx:AV=>x) [fe 1 180 1,fe 2 180 2,fe 3 180 3,fe 4 181 4,fe 5 181 5,fe 6 181 6,fe 7 182 7,fe 8 182 8,fe 9 182 9,fe 10 182 10,fe 11 182 11,fe 12 182 12,fe 13 180 13,fe 14 180 14,fe 15 180 15,fe 16 180 16],rF 243 160,rF 243 161,rF 243 162,rF 243 164,rF 243 165,rF 243 166,rF 160 168,rF 160 169,rF 160 170,rF 160 171,rF 160 172,rF 160 173,rF 243 174,rF 243 175,rF 243 176,rF 243 177,rF 243 178])) q q q q q ?_ (Zw q) q q ?_
 refine cI func159 λ_ _ _ _=>?_
 exact Rcl 2 q (Bx q q q (Rlx 10 q (ax (rs1 q (aR q)) ⟨h,Zl,⟨q,Zp,Zp,Zp,Zp,Zp,Zp,Zp,Zp,Zp,Zp,Zp,Zp,Zp,Zp,Zp,Zp,Zp,Zt⟩⟩)))
 rintro rv c ⟨h,hr,hst⟩
 subst ea
 dsimp only at h
 refine WL.cast 18 q hr (WL.weak hst (WL.s0 (bq (λx:Int=>Value.int .u8 x) (λx:AV=>x) _ (u:= .fn (.func 180) [] [.pt 17 0]) (.inl q) underlying229 underlying90 (KeyF.int .u8) q q q q) (Zw q) q ?_))
 obtain⟨eb,ec,h⟩:=aB h
 refine WL.inl (us:=[.fn (.func 179) [] []]) (λrv st'=>(eb ()=some r∧Le rv (.fn (.func 180) [] [.pt 18 0])∧SLe st' [mpO (λx:Int=>Value.int .u8 x) (λx:AV=>x) [fe 1 180 1,fe 2 180 2,fe 3 180 3,fe 4 181 4,fe 5 181 5,fe 6 181 6,fe 7 182 7,fe 8 182 8,fe 9 182 9,fe 10 182 10,fe 11 182 11,fe 12 182 12,fe 13 180 13,fe 14 180 14,fe 15 180 15,fe 16 180 16,fe 17 180 17],rF 243 160,rF 243 161,rF 243 162,rF 243 164,rF 243 165,rF 243 166,rF 160 168,rF 160 169,rF 160 170,rF 160 171,rF 160 172,rF 160 173,rF 243 174,rF 243 175,rF 243 176,rF 243 177,rF 243 178,rF 243 179])) q q q q q ?_ (Zw q) q q ?_
 refine cI func159 λ_ _ _ _=>?_
 exact Rcl 2 q (Bx q q q (Rlx 10 q (ax (rs1 q (aR q)) ⟨h,Zl,⟨q,Zp,Zp,Zp,Zp,Zp,Zp,Zp,Zp,Zp,Zp,Zp,Zp,Zp,Zp,Zp,Zp,Zp,Zp,Zt⟩⟩)))
 rintro rv c ⟨h,hr,hst⟩
 subst ec
 dsimp only at h
 exact WL.cast 19 q hr (WL.weak hst (WL.s0 (bq (λx:Int=>Value.int .u8 x) (λx:AV=>x) _ (u:= .fn (.func 180) [] [.pt 18 0]) (.inl q) underlying229 underlying90 (KeyF.int .u8) q q q q) (Zw q) q (Rl 2 q (Zn (Rcx 1 q (ax (rs1 q (aR q)) ⟨h,Zl,⟨q,Zp,Zp,Zp,Zp,Zp,Zp,Zp,Zp,Zp,Zp,Zp,Zp,Zp,Zp,Zp,Zp,Zp,Zp,Zt⟩⟩))))))
 rintro rv c ⟨h,hr,hst⟩
 subst b0
 dsimp only at h
 refine WL.cast 22 q hr (WL.weak hst ?_)
 rcases bQ h with⟨t,h⟩|⟨w,h⟩
 refine Rl 1 q (Zq (bC (λx:Int=>Value.int .u8 x) (λx:AV=>x) _ (k:=a) (z:= .d (.v .nilFunc)) underlying229 underlying90 (KeyF.int .u8) q q q kR q (by rw[t]<;>rfl) (by rw[t]<;>rfl)) q (Rl 5 q (Zn (Rcc 7 q (bz q (Rcc 3 q (WC.weak (st':=[.z,rF 243 160, .z, .z, .z, .z, .z, .z, .z, .z, .z, .z, .z, .z, .z, .z, .z, .z, .z]) Tv (WC.sub (env':=[(0, .d (D.i .u8 a)),(1, .n a1),(2, .n b2),(8, .fn (.func 180) [] [.pt 1 0])]) Sb (Rcl 4 q ?_)))))))))
 obtain⟨ee,eg,h⟩:=aB h
 refine WL.inl (us:=[.n a1, .n b2, .pt 1 0]) (λrv st'=>(ee ()=some r∧Le rv (.tu [.n (f160 a1 b2), .d (D.b true)])∧SLe st' [.z,rF 243 160, .z, .z, .z, .z, .z, .z, .z, .z, .z, .z, .z, .z, .z, .z, .z, .z, .z])) q q q q q ?_ (Zw q) q q ?_
 refine cI func180 λ_ _ _ _=>?_
 exact Rcl 11 q (wF Z4 (f160_c) Lw Z3 (Rlx 5 q (ax (rs2 q (aR q) (aR q)) ⟨h,(Le.tu Lw),Tv⟩)))
 rintro rv c ⟨h,hr,hst⟩
 subst eg
 dsimp only at h
 exact WL.cast 32 q hr (WL.weak hst (Rl 4 q (Zn (Rcx 1 q (FA h)))))
 rcases bQ h with⟨y,h⟩|⟨A,h⟩
 refine Rl 1 q (Zq (bC (λx:Int=>Value.int .u8 x) (λx:AV=>x) _ (k:=a) (z:= .d (.v .nilFunc)) underlying229 underlying90 (KeyF.int .u8) q q q kR q (by rw[y]<;>rfl) (by rw[y]<;>rfl)) q (Rl 5 q (Zn (Rcc 7 q (bz q (Rcc 3 q (WC.weak (st':=[.z, .z,rF 243 161, .z, .z, .z, .z, .z, .z, .z, .z, .z, .z, .z, .z, .z, .z, .z, .z]) Tv (WC.sub (env':=[(0, .d (D.i .u8 a)),(1, .n a1),(2, .n b2),(8, .fn (.func 180) [] [.pt 2 0])]) Sb (Rcl 4 q ?_)))))))))
 obtain⟨ei,ek,h⟩:=aB h
 refine WL.inl (us:=[.n a1, .n b2, .pt 2 0]) (λrv st'=>(ei ()=some r∧Le rv (.tu [.n (f161 a1 b2), .d (D.b true)])∧SLe st' [.z, .z,rF 243 161, .z, .z, .z, .z, .z, .z, .z, .z, .z, .z, .z, .z, .z, .z, .z, .z])) q q q q q ?_ (Zw q) q q ?_
 refine cI func180 λ_ _ _ _=>?_
 exact Rcl 11 q (wF Z4 (f161_c) Lw Z3 (Rlx 5 q (ax (rs2 q (aR q) (aR q)) ⟨h,(Le.tu Lw),Tv⟩)))
 rintro rv c ⟨h,hr,hst⟩
 subst ek
 dsimp only at h
 exact WL.cast 32 q hr (WL.weak hst (Rl 4 q (Zn (Rcx 1 q (FA h)))))
 rcases bQ h with⟨B,h⟩|⟨C,h⟩
 refine Rl 1 q (Zq (bC (λx:Int=>Value.int .u8 x) (λx:AV=>x) _ (k:=a) (z:= .d (.v .nilFunc)) underlying229 underlying90 (KeyF.int .u8) q q q kR q (by rw[B]<;>rfl) (by rw[B]<;>rfl)) q (Rl 5 q (Zn (Rcc 7 q (bz q (Rcc 3 q (WC.weak (st':=[.z, .z, .z,rF 243 162, .z, .z, .z, .z, .z, .z, .z, .z, .z, .z, .z, .z, .z, .z, .z]) Tv (WC.sub (env':=[(0, .d (D.i .u8 a)),(1, .n a1),(2, .n b2),(8, .fn (.func 180) [] [.pt 3 0])]) Sb (Rcl 4 q ?_)))))))))
 obtain⟨em,en,h⟩:=aB h
 refine WL.inl (us:=[.n a1, .n b2, .pt 3 0]) (λrv st'=>(em ()=some r∧Le rv (.tu [.n (f162 a1 b2), .d (D.b true)])∧SLe st' [.z, .z, .z,rF 243 162, .z, .z, .z, .z, .z, .z, .z, .z, .z, .z, .z, .z, .z, .z, .z])) q q q q q ?_ (Zw q) q q ?_
 refine cI func180 λ_ _ _ _=>?_
 exact Rcl 11 q (wF Z4 (f162_c) Lw Z3 (Rlx 5 q (ax (rs2 q (aR q) (aR q)) ⟨h,(Le.tu Lw),Tv⟩)))
 rintro rv c ⟨h,hr,hst⟩
 subst en
 dsimp only at h
 exact WL.cast 32 q hr (WL.weak hst (Rl 4 q (Zn (Rcx 1 q (FA h)))))
 rcases bQ h with⟨E,h⟩|⟨F,h⟩
 refine Rl 1 q (Zq (bC (λx:Int=>Value.int .u8 x) (λx:AV=>x) _ (k:=a) (z:= .d (.v .nilFunc)) underlying229 underlying90 (KeyF.int .u8) q q q kR q (by rw[E]<;>rfl) (by rw[E]<;>rfl)) q (Rl 5 q (Zn (Rcc 7 q (bz q (Rcc 3 q (WC.weak (st':=[.z, .z, .z, .z,rF 243 164, .z, .z, .z, .z, .z, .z, .z, .z, .z, .z, .z, .z, .z, .z]) Tv (WC.sub (env':=[(0, .d (D.i .u8 a)),(1, .n a1),(2, .n b2),(8, .fn (.func 181) [] [.pt 4 0])]) Sb (Rcl 4 q ?_)))))))))
 obtain⟨er,es,h⟩:=aB h
 refine WL.inl (us:=[.n a1, .n b2, .pt 4 0]) (λrv st'=>(∃(e:Bool),∃(f:Int),er e f=some r∧Le rv (.tu [.n f, .d (D.b e)])∧SLe st' [.z, .z, .z, .z,rF 243 164, .z, .z, .z, .z, .z, .z, .z, .z, .z, .z, .z, .z, .z, .z])) q q q q q ?_ (Zw q) q q ?_
 refine cI func181 λ_ _ _ _=>?_
 refine Rcc 13 q (Ci h q (λh=>Rcx 8 q (ax (rs2 q (aR q) (aR q)) ⟨false,0,h,(Le.tu Lw),Tv⟩)) λh=>?_)
 refine Rcl 7 q ?_
 obtain⟨et,ew,h⟩:=ae h
 exact wF Z4 (f164_c ew) Lw Z3 (Rlx 5 q (ax (rs2 q (aR q) (aR q)) ⟨true,et,h,(Le.tu Lw),Tv⟩))
 rintro rv c ⟨e,f,h,hr,hst⟩
 subst es
 dsimp only at h
 exact WL.cast 32 q hr (WL.weak hst (Rl 4 q (Zn (Rcx 1 q (FA h)))))
 rcases bQ h with⟨G,h⟩|⟨H,h⟩
 refine Rl 1 q (Zq (bC (λx:Int=>Value.int .u8 x) (λx:AV=>x) _ (k:=a) (z:= .d (.v .nilFunc)) underlying229 underlying90 (KeyF.int .u8) q q q kR q (by rw[G]<;>rfl) (by rw[G]<;>rfl)) q (Rl 5 q (Zn (Rcc 7 q (bz q (Rcc 3 q (WC.weak (st':=[.z, .z, .z, .z, .z,rF 243 165, .z, .z, .z, .z, .z, .z, .z, .z, .z, .z, .z, .z, .z]) Tv (WC.sub (env':=[(0, .d (D.i .u8 a)),(1, .n a1),(2, .n b2),(8, .fn (.func 181) [] [.pt 5 0])]) Sb (Rcl 4 q ?_)))))))))
 obtain⟨ex,ey,h⟩:=aB h
 refine WL.inl (us:=[.n a1, .n b2, .pt 5 0]) (λrv st'=>(∃(g:Bool),∃(j:Int),ex g j=some r∧Le rv (.tu [.n j, .d (D.b g)])∧SLe st' [.z, .z, .z, .z, .z,rF 243 165, .z, .z, .z, .z, .z, .z, .z, .z, .z, .z, .z, .z, .z])) q q q q q ?_ (Zw q) q q ?_
 refine cI func181 λ_ _ _ _=>?_
 refine Rcc 13 q (Ci h q (λh=>Rcx 8 q (ax (rs2 q (aR q) (aR q)) ⟨false,0,h,(Le.tu Lw),Tv⟩)) λh=>?_)
 refine Rcl 7 q ?_
 obtain⟨e0,e1,h⟩:=ae h
 exact wF Z4 (f165_c e1) Lw Z3 (Rlx 5 q (ax (rs2 q (aR q) (aR q)) ⟨true,e0,h,(Le.tu Lw),Tv⟩))
 rintro rv c ⟨g,j,h,hr,hst⟩
 subst ey
 dsimp only at h
 exact WL.cast 32 q hr (WL.weak hst (Rl 4 q (Zn (Rcx 1 q (FA h)))))
 rcases bQ h with⟨I,h⟩|⟨K,h⟩
 refine Rl 1 q (Zq (bC (λx:Int=>Value.int .u8 x) (λx:AV=>x) _ (k:=a) (z:= .d (.v .nilFunc)) underlying229 underlying90 (KeyF.int .u8) q q q kR q (by rw[I]<;>rfl) (by rw[I]<;>rfl)) q (Rl 5 q (Zn (Rcc 7 q (bz q (Rcc 3 q (WC.weak (st':=[.z, .z, .z, .z, .z, .z,rF 243 166, .z, .z, .z, .z, .z, .z, .z, .z, .z, .z, .z, .z]) Tv (WC.sub (env':=[(0, .d (D.i .u8 a)),(1, .n a1),(2, .n b2),(8, .fn (.func 181) [] [.pt 6 0])]) Sb (Rcl 4 q ?_)))))))))
 obtain⟨e2,e3,h⟩:=aB h
 refine WL.inl (us:=[.n a1, .n b2, .pt 6 0]) (λrv st'=>(∃(m:Bool),∃(p:Int),e2 m p=some r∧Le rv (.tu [.n p, .d (D.b m)])∧SLe st' [.z, .z, .z, .z, .z, .z,rF 243 166, .z, .z, .z, .z, .z, .z, .z, .z, .z, .z, .z, .z])) q q q q q ?_ (Zw q) q q ?_
 refine cI func181 λ_ _ _ _=>?_
 refine Rcc 13 q (Ci h q (λh=>Rcx 8 q (ax (rs2 q (aR q) (aR q)) ⟨false,0,h,(Le.tu Lw),Tv⟩)) λh=>?_)
 refine Rcl 7 q ?_
 obtain⟨e4,e5,h⟩:=ae h
 exact wF Z4 (f166_c e5) Lw Z3 (Rlx 5 q (ax (rs2 q (aR q) (aR q)) ⟨true,e4,h,(Le.tu Lw),Tv⟩))
 rintro rv c ⟨m,p,h,hr,hst⟩
 subst e3
 dsimp only at h
 exact WL.cast 32 q hr (WL.weak hst (Rl 4 q (Zn (Rcx 1 q (FA h)))))
 rcases bQ h with⟨L,h⟩|⟨M,h⟩
 refine Rl 1 q (Zq (bC (λx:Int=>Value.int .u8 x) (λx:AV=>x) _ (k:=a) (z:= .d (.v .nilFunc)) underlying229 underlying90 (KeyF.int .u8) q q q kR q (by rw[L]<;>rfl) (by rw[L]<;>rfl)) q (Rl 5 q (Zn (Rcc 7 q (bz q (Rcc 3 q (WC.weak (st':=[.z, .z, .z, .z, .z, .z, .z,rF 160 168, .z, .z, .z, .z, .z, .z, .z, .z, .z, .z, .z]) Tv (WC.sub (env':=[(0, .d (D.i .u8 a)),(1, .n a1),(2, .n b2),(8, .fn (.func 182) [] [.pt 7 0])]) Sb (Rcl 4 q ?_)))))))))
 obtain⟨e6,e',h⟩:=aB h
 refine WL.inl (us:=[.n a1, .n b2, .pt 7 0]) (λrv st'=>(e6 ()=some r∧Le rv (.tu [.n (f152 (f168 a1 b2)), .d (D.b true)])∧SLe st' [.z, .z, .z, .z, .z, .z, .z,rF 160 168, .z, .z, .z, .z, .z, .z, .z, .z, .z, .z, .z])) q q q q q ?_ (Zw q) q q ?_
 refine cI func182 λ_ _ _ _=>?_
 exact Rcl 11 q (wF Z4 (f168_c) Lw Z3 (wF Z4 (f152_c) Lw Z3 (Rlx 5 q (ax (rs2 q (aR q) (aR q)) ⟨h,(Le.tu Lw),Tv⟩))))
 rintro rv c ⟨h,hr,hst⟩
 subst e'
 dsimp only at h
 exact WL.cast 32 q hr (WL.weak hst (Rl 4 q (Zn (Rcx 1 q (FA h)))))
 rcases bQ h with⟨N,h⟩|⟨O,h⟩
 refine Rl 1 q (Zq (bC (λx:Int=>Value.int .u8 x) (λx:AV=>x) _ (k:=a) (z:= .d (.v .nilFunc)) underlying229 underlying90 (KeyF.int .u8) q q q kR q (by rw[N]<;>rfl) (by rw[N]<;>rfl)) q (Rl 5 q (Zn (Rcc 7 q (bz q (Rcc 3 q (WC.weak (st':=[.z, .z, .z, .z, .z, .z, .z, .z,rF 160 169, .z, .z, .z, .z, .z, .z, .z, .z, .z, .z]) Tv (WC.sub (env':=[(0, .d (D.i .u8 a)),(1, .n a1),(2, .n b2),(8, .fn (.func 182) [] [.pt 8 0])]) Sb (Rcl 4 q ?_)))))))))
 obtain⟨fc,fd,h⟩:=aB h
 refine WL.inl (us:=[.n a1, .n b2, .pt 8 0]) (λrv st'=>(fc ()=some r∧Le rv (.tu [.n (f152 (f169 a1 b2)), .d (D.b true)])∧SLe st' [.z, .z, .z, .z, .z, .z, .z, .z,rF 160 169, .z, .z, .z, .z, .z, .z, .z, .z, .z, .z])) q q q q q ?_ (Zw q) q q ?_
 refine cI func182 λ_ _ _ _=>?_
 exact Rcl 11 q (wF Z4 (f169_c) Lw Z3 (wF Z4 (f152_c) Lw Z3 (Rlx 5 q (ax (rs2 q (aR q) (aR q)) ⟨h,(Le.tu Lw),Tv⟩))))
 rintro rv c ⟨h,hr,hst⟩
 subst fd
 dsimp only at h
 exact WL.cast 32 q hr (WL.weak hst (Rl 4 q (Zn (Rcx 1 q (FA h)))))
 rcases bQ h with⟨P,h⟩|⟨Q,h⟩
 refine Rl 1 q (Zq (bC (λx:Int=>Value.int .u8 x) (λx:AV=>x) _ (k:=a) (z:= .d (.v .nilFunc)) underlying229 underlying90 (KeyF.int .u8) q q q kR q (by rw[P]<;>rfl) (by rw[P]<;>rfl)) q (Rl 5 q (Zn (Rcc 7 q (bz q (Rcc 3 q (WC.weak (st':=[.z, .z, .z, .z, .z, .z, .z, .z, .z,rF 160 170, .z, .z, .z, .z, .z, .z, .z, .z, .z]) Tv (WC.sub (env':=[(0, .d (D.i .u8 a)),(1, .n a1),(2, .n b2),(8, .fn (.func 182) [] [.pt 9 0])]) Sb (Rcl 4 q ?_)))))))))
 obtain⟨fi,fo,h⟩:=aB h
 refine WL.inl (us:=[.n a1, .n b2, .pt 9 0]) (λrv st'=>(fi ()=some r∧Le rv (.tu [.n (f152 (f170 a1 b2)), .d (D.b true)])∧SLe st' [.z, .z, .z, .z, .z, .z, .z, .z, .z,rF 160 170, .z, .z, .z, .z, .z, .z, .z, .z, .z])) q q q q q ?_ (Zw q) q q ?_
 refine cI func182 λ_ _ _ _=>?_
 exact Rcl 11 q (wF Z4 (f170_c) Lw Z3 (wF Z4 (f152_c) Lw Z3 (Rlx 5 q (ax (rs2 q (aR q) (aR q)) ⟨h,(Le.tu Lw),Tv⟩))))
 rintro rv c ⟨h,hr,hst⟩
 subst fo
 dsimp only at h
 exact WL.cast 32 q hr (WL.weak hst (Rl 4 q (Zn (Rcx 1 q (FA h)))))
 rcases bQ h with⟨R,h⟩|⟨S,h⟩
 refine Rl 1 q (Zq (bC (λx:Int=>Value.int .u8 x) (λx:AV=>x) _ (k:=a) (z:= .d (.v .nilFunc)) underlying229 underlying90 (KeyF.int .u8) q q q kR q (by rw[R]<;>rfl) (by rw[R]<;>rfl)) q (Rl 5 q (Zn (Rcc 7 q (bz q (Rcc 3 q (WC.weak (st':=[.z, .z, .z, .z, .z, .z, .z, .z, .z, .z,rF 160 171, .z, .z, .z, .z, .z, .z, .z, .z]) Tv (WC.sub (env':=[(0, .d (D.i .u8 a)),(1, .n a1),(2, .n b2),(8, .fn (.func 182) [] [.pt 10 0])]) Sb (Rcl 4 q ?_)))))))))
 obtain⟨fr,fv,h⟩:=aB h
 refine WL.inl (us:=[.n a1, .n b2, .pt 10 0]) (λrv st'=>(fr ()=some r∧Le rv (.tu [.n (f152 (f171 a1 b2)), .d (D.b true)])∧SLe st' [.z, .z, .z, .z, .z, .z, .z, .z, .z, .z,rF 160 171, .z, .z, .z, .z, .z, .z, .z, .z])) q q q q q ?_ (Zw q) q q ?_
 refine cI func182 λ_ _ _ _=>?_
 exact Rcl 11 q (wF Z4 (f171_c) Lw Z3 (wF Z4 (f152_c) Lw Z3 (Rlx 5 q (ax (rs2 q (aR q) (aR q)) ⟨h,(Le.tu Lw),Tv⟩))))
 rintro rv c ⟨h,hr,hst⟩
 subst fv
 dsimp only at h
 exact WL.cast 32 q hr (WL.weak hst (Rl 4 q (Zn (Rcx 1 q (FA h)))))
 rcases bQ h with⟨T,h⟩|⟨U,h⟩
 refine Rl 1 q (Zq (bC (λx:Int=>Value.int .u8 x) (λx:AV=>x) _ (k:=a) (z:= .d (.v .nilFunc)) underlying229 underlying90 (KeyF.int .u8) q q q kR q (by rw[T]<;>rfl) (by rw[T]<;>rfl)) q (Rl 5 q (Zn (Rcc 7 q (bz q (Rcc 3 q (WC.weak (st':=[.z, .z, .z, .z, .z, .z, .z, .z, .z, .z, .z,rF 160 172, .z, .z, .z, .z, .z, .z, .z]) Tv (WC.sub (env':=[(0, .d (D.i .u8 a)),(1, .n a1),(2, .n b2),(8, .fn (.func 182) [] [.pt 11 0])]) Sb (Rcl 4 q ?_)))))))))
 obtain⟨fz,f0,h⟩:=aB h
 refine WL.inl (us:=[.n a1, .n b2, .pt 11 0]) (λrv st'=>(fz ()=some r∧Le rv (.tu [.n (f152 (f172 a1 b2)), .d (D.b true)])∧SLe st' [.z, .z, .z, .z, .z, .z, .z, .z, .z, .z, .z,rF 160 172, .z, .z, .z, .z, .z, .z, .z])) q q q q q ?_ (Zw q) q q ?_
 refine cI func182 λ_ _ _ _=>?_
 exact Rcl 11 q (wF Z4 (f172_c) Lw Z3 (wF Z4 (f152_c) Lw Z3 (Rlx 5 q (ax (rs2 q (aR q) (aR q)) ⟨h,(Le.tu Lw),Tv⟩))))
 rintro rv c ⟨h,hr,hst⟩
 subst f0
 dsimp only at h
 exact WL.cast 32 q hr (WL.weak hst (Rl 4 q (Zn (Rcx 1 q (FA h)))))
 rcases bQ h with⟨V,h⟩|⟨X,h⟩
 refine Rl 1 q (Zq (bC (λx:Int=>Value.int .u8 x) (λx:AV=>x) _ (k:=a) (z:= .d (.v .nilFunc)) underlying229 underlying90 (KeyF.int .u8) q q q kR q (by rw[V]<;>rfl) (by rw[V]<;>rfl)) q (Rl 5 q (Zn (Rcc 7 q (bz q (Rcc 3 q (WC.weak (st':=[.z, .z, .z, .z, .z, .z, .z, .z, .z, .z, .z, .z,rF 160 173, .z, .z, .z, .z, .z, .z]) Tv (WC.sub (env':=[(0, .d (D.i .u8 a)),(1, .n a1),(2, .n b2),(8, .fn (.func 182) [] [.pt 12 0])]) Sb (Rcl 4 q ?_)))))))))
 obtain⟨f1,f2,h⟩:=aB h
 refine WL.inl (us:=[.n a1, .n b2, .pt 12 0]) (λrv st'=>(f1 ()=some r∧Le rv (.tu [.n (f152 (f173 a1 b2)), .d (D.b true)])∧SLe st' [.z, .z, .z, .z, .z, .z, .z, .z, .z, .z, .z, .z,rF 160 173, .z, .z, .z, .z, .z, .z])) q q q q q ?_ (Zw q) q q ?_
 refine cI func182 λ_ _ _ _=>?_
 exact Rcl 11 q (wF Z4 (f173_c) Lw Z3 (wF Z4 (f152_c) Lw Z3 (Rlx 5 q (ax (rs2 q (aR q) (aR q)) ⟨h,(Le.tu Lw),Tv⟩))))
 rintro rv c ⟨h,hr,hst⟩
 subst f2
 dsimp only at h
 exact WL.cast 32 q hr (WL.weak hst (Rl 4 q (Zn (Rcx 1 q (FA h)))))
 rcases bQ h with⟨Y,h⟩|⟨Z,h⟩
 refine Rl 1 q (Zq (bC (λx:Int=>Value.int .u8 x) (λx:AV=>x) _ (k:=a) (z:= .d (.v .nilFunc)) underlying229 underlying90 (KeyF.int .u8) q q q kR q (by rw[Y]<;>rfl) (by rw[Y]<;>rfl)) q (Rl 5 q (Zn (Rcc 7 q (bz q (Rcc 3 q (WC.weak (st':=[.z, .z, .z, .z, .z, .z, .z, .z, .z, .z, .z, .z, .z,rF 243 174, .z, .z, .z, .z, .z]) Tv (WC.sub (env':=[(0, .d (D.i .u8 a)),(1, .n a1),(2, .n b2),(8, .fn (.func 180) [] [.pt 13 0])]) Sb (Rcl 4 q ?_)))))))))
 obtain⟨f',gg,h⟩:=aB h
 refine WL.inl (us:=[.n a1, .n b2, .pt 13 0]) (λrv st'=>(f' ()=some r∧Le rv (.tu [.n (f174 a1 b2), .d (D.b true)])∧SLe st' [.z, .z, .z, .z, .z, .z, .z, .z, .z, .z, .z, .z, .z,rF 243 174, .z, .z, .z, .z, .z])) q q q q q ?_ (Zw q) q q ?_
 refine cI func180 λ_ _ _ _=>?_
 exact Rcl 11 q (wF Z4 (f174_c) Lw Z3 (Rlx 5 q (ax (rs2 q (aR q) (aR q)) ⟨h,(Le.tu Lw),Tv⟩)))
 rintro rv c ⟨h,hr,hst⟩
 subst gg
 dsimp only at h
 exact WL.cast 32 q hr (WL.weak hst (Rl 4 q (Zn (Rcx 1 q (FA h)))))
 rcases bQ h with⟨ag,h⟩|⟨a0,h⟩
 refine Rl 1 q (Zq (bC (λx:Int=>Value.int .u8 x) (λx:AV=>x) _ (k:=a) (z:= .d (.v .nilFunc)) underlying229 underlying90 (KeyF.int .u8) q q q kR q (by rw[ag]<;>rfl) (by rw[ag]<;>rfl)) q (Rl 5 q (Zn (Rcc 7 q (bz q (Rcc 3 q (WC.weak (st':=[.z, .z, .z, .z, .z, .z, .z, .z, .z, .z, .z, .z, .z, .z,rF 243 175, .z, .z, .z, .z]) Tv (WC.sub (env':=[(0, .d (D.i .u8 a)),(1, .n a1),(2, .n b2),(8, .fn (.func 180) [] [.pt 14 0])]) Sb (Rcl 4 q ?_)))))))))
 obtain⟨gl,gm,h⟩:=aB h
 refine WL.inl (us:=[.n a1, .n b2, .pt 14 0]) (λrv st'=>(gl ()=some r∧Le rv (.tu [.n (f175 a1 b2), .d (D.b true)])∧SLe st' [.z, .z, .z, .z, .z, .z, .z, .z, .z, .z, .z, .z, .z, .z,rF 243 175, .z, .z, .z, .z])) q q q q q ?_ (Zw q) q q ?_
 refine cI func180 λ_ _ _ _=>?_
 exact Rcl 11 q (wF Z4 (f175_c) Lw Z3 (Rlx 5 q (ax (rs2 q (aR q) (aR q)) ⟨h,(Le.tu Lw),Tv⟩)))
 rintro rv c ⟨h,hr,hst⟩
 subst gm
 dsimp only at h
 exact WL.cast 32 q hr (WL.weak hst (Rl 4 q (Zn (Rcx 1 q (FA h)))))
 rcases bQ h with⟨a6,h⟩|⟨a7,h⟩
 refine Rl 1 q (Zq (bC (λx:Int=>Value.int .u8 x) (λx:AV=>x) _ (k:=a) (z:= .d (.v .nilFunc)) underlying229 underlying90 (KeyF.int .u8) q q q kR q (by rw[a6]<;>rfl) (by rw[a6]<;>rfl)) q (Rl 5 q (Zn (Rcc 7 q (bz q (Rcc 3 q (WC.weak (st':=[.z, .z, .z, .z, .z, .z, .z, .z, .z, .z, .z, .z, .z, .z, .z,rF 243 176, .z, .z, .z]) Tv (WC.sub (env':=[(0, .d (D.i .u8 a)),(1, .n a1),(2, .n b2),(8, .fn (.func 180) [] [.pt 15 0])]) Sb (Rcl 4 q ?_)))))))))
 obtain⟨gs,gu,h⟩:=aB h
 refine WL.inl (us:=[.n a1, .n b2, .pt 15 0]) (λrv st'=>(gs ()=some r∧Le rv (.tu [.n (f176 a1 b2), .d (D.b true)])∧SLe st' [.z, .z, .z, .z, .z, .z, .z, .z, .z, .z, .z, .z, .z, .z, .z,rF 243 176, .z, .z, .z])) q q q q q ?_ (Zw q) q q ?_
 refine cI func180 λ_ _ _ _=>?_
 exact Rcl 11 q (wF Z4 (f176_c) Lw Z3 (Rlx 5 q (ax (rs2 q (aR q) (aR q)) ⟨h,(Le.tu Lw),Tv⟩)))
 rintro rv c ⟨h,hr,hst⟩
 subst gu
 dsimp only at h
 exact WL.cast 32 q hr (WL.weak hst (Rl 4 q (Zn (Rcx 1 q (FA h)))))
 rcases bQ h with⟨a8,h⟩|⟨a',h⟩
 refine Rl 1 q (Zq (bC (λx:Int=>Value.int .u8 x) (λx:AV=>x) _ (k:=a) (z:= .d (.v .nilFunc)) underlying229 underlying90 (KeyF.int .u8) q q q kR q (by rw[a8]<;>rfl) (by rw[a8]<;>rfl)) q (Rl 5 q (Zn (Rcc 7 q (bz q (Rcc 3 q (WC.weak (st':=[.z, .z, .z, .z, .z, .z, .z, .z, .z, .z, .z, .z, .z, .z, .z, .z,rF 243 177, .z, .z]) Tv (WC.sub (env':=[(0, .d (D.i .u8 a)),(1, .n a1),(2, .n b2),(8, .fn (.func 180) [] [.pt 16 0])]) Sb (Rcl 4 q ?_)))))))))
 obtain⟨gx,g0,h⟩:=aB h
 refine WL.inl (us:=[.n a1, .n b2, .pt 16 0]) (λrv st'=>(gx ()=some r∧Le rv (.tu [.n (f177 a1 b2), .d (D.b true)])∧SLe st' [.z, .z, .z, .z, .z, .z, .z, .z, .z, .z, .z, .z, .z, .z, .z, .z,rF 243 177, .z, .z])) q q q q q ?_ (Zw q) q q ?_
 refine cI func180 λ_ _ _ _=>?_
 exact Rcl 11 q (wF Z4 (f177_c) Lw Z3 (Rlx 5 q (ax (rs2 q (aR q) (aR q)) ⟨h,(Le.tu Lw),Tv⟩)))
 rintro rv c ⟨h,hr,hst⟩
 subst g0
 dsimp only at h
 exact WL.cast 32 q hr (WL.weak hst (Rl 4 q (Zn (Rcx 1 q (FA h)))))
 rcases bQ h with⟨bb,h⟩|⟨bd,h⟩
 refine Rl 1 q (Zq (bC (λx:Int=>Value.int .u8 x) (λx:AV=>x) _ (k:=a) (z:= .d (.v .nilFunc)) underlying229 underlying90 (KeyF.int .u8) q q q kR q (by rw[bb]<;>rfl) (by rw[bb]<;>rfl)) q (Rl 5 q (Zn (Rcc 7 q (bz q (Rcc 3 q (WC.weak (st':=[.z, .z, .z, .z, .z, .z, .z, .z, .z, .z, .z, .z, .z, .z, .z, .z, .z,rF 243 178, .z]) Tv (WC.sub (env':=[(0, .d (D.i .u8 a)),(1, .n a1),(2, .n b2),(8, .fn (.func 180) [] [.pt 17 0])]) Sb (Rcl 4 q ?_)))))))))
 obtain⟨g1,g2,h⟩:=aB h
 refine WL.inl (us:=[.n a1, .n b2, .pt 17 0]) (λrv st'=>(g1 ()=some r∧Le rv (.tu [.n (f178 a1 b2), .d (D.b true)])∧SLe st' [.z, .z, .z, .z, .z, .z, .z, .z, .z, .z, .z, .z, .z, .z, .z, .z, .z,rF 243 178, .z])) q q q q q ?_ (Zw q) q q ?_
 refine cI func180 λ_ _ _ _=>?_
 exact Rcl 11 q (wF Z4 (f178_c) Lw Z3 (Rlx 5 q (ax (rs2 q (aR q) (aR q)) ⟨h,(Le.tu Lw),Tv⟩)))
 rintro rv c ⟨h,hr,hst⟩
 subst g2
 dsimp only at h
 exact WL.cast 32 q hr (WL.weak hst (Rl 4 q (Zn (Rcx 1 q (FA h)))))
 rcases bQ h with⟨bk,h⟩|⟨bl,h⟩
 refine Rl 1 q (Zq (bC (λx:Int=>Value.int .u8 x) (λx:AV=>x) _ (k:=a) (z:= .d (.v .nilFunc)) underlying229 underlying90 (KeyF.int .u8) q q q kR q (by rw[bk]<;>rfl) (by rw[bk]<;>rfl)) q (Rl 5 q (Zn (Rcc 7 q (bz q (Rcc 3 q (WC.weak (st':=[.z, .z, .z, .z, .z, .z, .z, .z, .z, .z, .z, .z, .z, .z, .z, .z, .z, .z,rF 243 179]) Tv (WC.sub (env':=[(0, .d (D.i .u8 a)),(1, .n a1),(2, .n b2),(8, .fn (.func 180) [] [.pt 18 0])]) Sb (Rcl 4 q ?_)))))))))
 obtain⟨g3,g4,h⟩:=aB h
 refine WL.inl (us:=[.n a1, .n b2, .pt 18 0]) (λrv st'=>(g3 ()=some r∧Le rv (.tu [.n (f179 a1 b2), .d (D.b true)])∧SLe st' [.z, .z, .z, .z, .z, .z, .z, .z, .z, .z, .z, .z, .z, .z, .z, .z, .z, .z,rF 243 179])) q q q q q ?_ (Zw q) q q ?_
 refine cI func180 λ_ _ _ _=>?_
 exact Rcl 11 q (wF Z4 (f179_c) Lw Z3 (Rlx 5 q (ax (rs2 q (aR q) (aR q)) ⟨h,(Le.tu Lw),Tv⟩)))
 rintro rv c ⟨h,hr,hst⟩
 subst g4
 dsimp only at h
 exact WL.cast 32 q hr (WL.weak hst (Rl 4 q (Zn (Rcx 1 q (FA h)))))
 refine Rl 1 q (Zq (bC (λx:Int=>Value.int .u8 x) (λx:AV=>x) _ (k:=a) (z:= .d (.v .nilFunc)) underlying229 underlying90 (KeyF.int .u8) q q q kR q (by rw[show bH _ a=none from(ba w (ba A (ba C (ba F (ba H (ba K (ba M (ba O (ba Q (ba S (ba U (ba X (ba Z (ba a0 (ba a7 (ba a' (ba bd (ba bl my))))))))))))))))))]<;>rfl) (by rw[show bH _ a=none from(ba w (ba A (ba C (ba F (ba H (ba K (ba M (ba O (ba Q (ba S (ba U (ba X (ba Z (ba a0 (ba a7 (ba a' (ba bd (ba bl my))))))))))))))))))]<;>rfl)) q (Rl 5 q ?_))
 exact Zn (Rcc 7 q (cO q (Rcx 8 q (FA h))))

theorem f153_c(x0:Int)(y1:Int)(a:Int){r:Int×Bool}(h:f153 x0 y1 a=some r):Pu prog 153 [.i .i64 x0, .i .i64 y1, .pc (E90 a)] (.tu [.i .i64 r.1, .b r.2]):=by
 unfold f153 at h
 refine fI func153 λ_ _=>?_
 refine Rcl 11 q ?_
 obtain⟨e,c,h⟩:=ae h
 exact wF Z4 (f154_c c) Lw Z3 (Rlx 7 q (FA h))

theorem f141_c{a:Int}{a1:aa}{b2:aa}{r:aa}(h:f141 a a1 b2=some r):Pu prog 141 [.i .u8 a, .ag (R42 a1), .ag (R42 b2)] (.ag (R42 r)):=by
 unfold f141 at h
 refine fI func141 λ_ _=>?_
 refine Rcl 2 q (WL.s ((jU q q (by exact(show Les [.d (D.i .u8 a)] (List.map AV.d [.i .u8 a]) from Lw))).does) (Zw q) q q (Bd q q (Zs _) q (Bd q q (Zs _) q (Al z42 q (Rll 4 q (Zq (ac p42 z42 q q) q (Al z42 q (sS Z6 s42 Z2 (Rll 7 q (wF Z4 (f65_c _ (aa.mk 0 1)) ⟨Zl,(ak (Zs _)),Zt⟩ Z3 (Rl 2 q ?_)))))))))))
 apply WL.or 5 (t:=13) (d:=18)
 exact q
 intro e
 exact Rl 2 q (WL.fn q q q q (f65_c _ (aa.mk 0 1)) ⟨Zl,(ak (Zs _)),Zt⟩ (aG q q q) q q (Rl 2 q (WL.nil ⟨q,[_,_,_,_,_],q,q,q⟩)))
 exact Rn 5 5
 refine Rlc 2 q (Ci h q (λh=>?_) λh=>?_)
 refine Rcl 2 q (WL.fn q q q q (f124_c) Zt (Zw q) q q (sS Z6 s42 Z2 (Rlx 4 q ?_)))
 obtain rfl:=Oi h
 exact am (rs1 q (aZ q q a42 s42 q)) (ak (Zs _))
 refine Rcl 9 q (WL.s ((NewOs.b (ad l71 z2 q dC dC q q q dC)).does) (Zw q) q q (Rl 4 q (WL.s ((NewOs.b (ad l71 z2 q dC dC q q q dC)).does) (Zw q) q q ?_)))
 refine WL.freezeX [25] [] 2 _ q (ai fg [a1.lo,a1.hi]) ⟨q,Zt⟩ Zt ?_
 refine WL.freezeX [30] [] 3 _ q (ai fg [b2.lo,b2.hi]) ⟨q,Zt⟩ Zt ?_
 obtain⟨f,c,h⟩:=ae h
 refine wF Z4 (f132_c _ _ _ 153 [] [(.pc (E90 a))] (λz0 z1 _ h=>f153_c z0 z1 a h) c) ⟨(Le.fnc Zt Lw),Zl,Zl,Zt⟩ Z3 (sS Z6 s42 Z2 (Rlx 3 q ?_))
 obtain rfl:=Oi h
 exact am (rs1 q (aZ q q a42 s42 q)) (ak (Zs _))

theorem f142_c{a0:aa}{r:aa}(h:f142 a0=some r):Pu prog 142 [.ag (R42 a0)] (.ag (R42 r)):=by
 unfold f142 at h
 refine fI func142 λ_ _=>?_
 refine Rcl 2 q (Bd q q (Zs _) q (Al z42 q (Rlc 12 q (Ci h q (λh=>?_) λh=>?_))))
 refine Rcl 2 q (WL.fn q q q q (f124_c) Zt (Zw q) q q (sS Z6 s42 Z2 (Rlx 5 q ?_)))
 obtain rfl:=Oi h
 exact am (rs1 q (aZ q q a42 s42 q)) (ak (Zs _))
 refine Rcl 6 q ?_
 refine AG 4 12 16 4 4 ?_
 refine Rlc 3 q (Ci h q (λh=>?_) λh=>?_)
 refine Rcl 7 q (WL.s ((NewOs.b (ad l71 z2 q dC dC q q q dC)).does) (Zw q) q q ?_)
 refine WL.freezeX [22] [] 1 _ q (ai fg [(IntKind.i64.wrap (0 - a0.lo)),a0.hi]) ⟨q,Zt⟩ Zt ?_
 obtain⟨e,a,h⟩:=ae h
 refine wF Z4 (f115_c a) Lw Z3 (sS Z6 s42 Z2 (Rlx 5 q ?_))
 obtain rfl:=Oi h
 exact am (rs1 q (aZ q q a42 s42 q)) (ak (Zs _))
 refine Rcl 10 q (Zq (eU q q q) q (Rl 5 q (Zq (eU q q q) q (WL.s ((NewOs.b (ad l71 z2 q dC dC q q q dC)).does) (Zw q) q q ?_))))
 refine WL.freezeX [36] [] 1 _ q (ai fg [(if(IntKind.i64.wrap (0 - a0.hi))>a0.hi then(IntKind.i64.wrap (0 - a0.hi)) else a0.hi)]) ⟨q,Zt⟩ Zt ?_
 obtain⟨f,c,h⟩:=ae h
 refine wF Z4 (f115_c c) Lw Z3 (sS Z6 s42 Z2 (Rlx 3 q ?_))
 obtain rfl:=Oi h
 exact am (rs1 q (aZ q q a42 s42 q)) (ak (Zs _))

theorem f120_c{a:Int}{a1:aa}{b2:aa}{r:aa}(h:f120 a a1 b2=some r):Pu prog 120 [.i .u8 a, .ag (R42 a1), .ag (R42 b2)] (.ag (R42 r)):=by
 unfold f120 at h
 refine fI func120 λ_ _=>?_
 refine Rcl 2 q (Bd q q (Zs _) q (Bd q q (Zs _) q (Al z42 q (Rll 6 q (wF Z4 (f103_c _) Lw Z3 (Rl 1 q ?_))))))
 apply WL.or 8 (t:=11) (d:=19)
 exact q
 intro C
 refine Rl 1 q (WL.fn q q q q (f103_c _) Lw (aG q q q) q q (Rl 1 q ?_))
 apply WL.and 4 (t:=14) (d:=18)
 exact q
 intro E
 exact Rl 1 q (WL.fn q q q q (f131_c) Lw (aG q q q) q q (Rl 2 q (WL.nil ⟨q,[_,_,_,_],q,q,q⟩)))
 exact Rn 4 4
 exact Rn 1 5
 exact Rn 8 8
 refine Rlc 2 q (Ci h q (λh=>?_) λh=>?_)
 refine Rcl 2 q (WL.fn q q q q (f114_c) Zt (Zw q) q q (sS Z6 s42 Z2 (Rlx 4 q ?_)))
 obtain rfl:=Oi h
 exact am (rs1 q (aZ q q a42 s42 q)) (ak (Zs _))
 refine Rcc 3 q ?_
 apply RT [_,_,_,_,_,_,_,_,_,_,_,_] [] [] [p01 4,p10 0,p01 4,p10 2,p20 1 3,p01 5,p10 5,p01 5,p10 7,p20 6 8,p10 4,p10 9] kR kR q q
 refine Y4 ?_
 refine zo (λ_=>WL.s ((NewOs.data (ad l71 z2 q dC dC q q q dC) (by exact ai fg [a1.lo,a1.hi])).does) (Zw q) q q (Zd q q q)) ?_
 refine Y4 ?_
 refine zo (λ_=>WL.s ((NewOs.data (ad l71 z2 q dC dC q q q dC) (by exact ai fg [b2.lo,b2.hi])).does) (Zw q) q q (Zd q q q)) ?_
 exact Y2 Zt
 refine Rxc 14 q (Ci h q (λh=>?_) λh=>?_)
 refine Rcl 4 q ?_
 obtain⟨F,g,h⟩:=ae h
 refine wF Z4 (f132_c _ _ _ 133 [] [] (λz0 z1 _ h=>by obtain rfl:=inS h;exact f133_c z0 z1) g) ⟨(Le.fnc Zt Zt),Zl,Zl,Zt⟩ Z3 (sS Z6 s42 Z2 (Rlx 5 q ?_))
 obtain rfl:=Oi h
 exact am (rs1 q (aZ q q a42 s42 q)) (ak (Zs _))
 refine Rcc 6 q (Ci h q (λh=>?_) λh=>?_)
 refine Rcl 4 q ?_
 obtain⟨G,j,h⟩:=ae h
 refine wF Z4 (f132_c _ _ _ 134 [] [] (λz0 z1 _ h=>by obtain rfl:=inS h;exact f134_c z0 z1) j) ⟨(Le.fnc Zt Zt),Zl,Zl,Zt⟩ Z3 (sS Z6 s42 Z2 (Rlx 5 q ?_))
 obtain rfl:=Oi h
 exact am (rs1 q (aZ q q a42 s42 q)) (ak (Zs _))
 refine Rcc 6 q (Ci h q (λh=>?_) λh=>?_)
 refine Rcl 4 q ?_
 obtain⟨H,k,h⟩:=ae h
 refine wF Z4 (f132_c _ _ _ 135 [] [] (λz0 z1 _ h=>by obtain rfl:=inS h;exact f135_c z0 z1) k) ⟨(Le.fnc Zt Zt),Zl,Zl,Zt⟩ Z3 (sS Z6 s42 Z2 (Rlx 5 q ?_))
 obtain rfl:=Oi h
 exact am (rs1 q (aZ q q a42 s42 q)) (ak (Zs _))
 refine Rcc 6 q (Ci h q (λh=>?_) λh=>?_)
 refine Rcl 4 q ?_
 obtain⟨I,m,h⟩:=ae h
 refine wF Z4 (f137_c m) Lw Z3 ?_
 obtain⟨K,p,h⟩:=ae h
 refine wF Z4 (f132_c _ _ _ 136 [] [] (λz0 z1 _ h=>f136_c z0 z1 h) p) ⟨(Le.fnc Zt Zt),Zl,Zl,Zt⟩ Z3 (sS Z6 s42 Z2 (Rlx 5 q ?_))
 obtain rfl:=Oi h
 exact am (rs1 q (aZ q q a42 s42 q)) (ak (Zs _))
 refine Jn1 (λc=> [(0, .d (D.i .u8 a)),(4, .d (.pc (R42 a1))),(5, .d (.pc (R42 b2))),(6, .pt 0 0),(7, .l E2 [a1.lo,a1.hi]),(31, .d (D.i .u8 a)),(53, .d (D.b c))]) (λ_=> [.row 42 [.n 0, .n 0]]) h (λ_ h=>?_) (λc h=>?_)
 exact Rcc 6 q (Ci h q (λh=>Rcx 1 q (En1 h)) λh=>Rcx 4 q (En1 h))
 refine Ci h q (λh=>?_) (λh=>?_)
 refine Rcl 4 q (Zq (ac p42 z42 q q) q (Zq (pE (xs:=[.int .i64 b2.lo, .int .i64 b2.hi]) (ys:=[.int .i64 0, .int .i64 0]) q42 q Zl q (ak (Zs _)) q q q) q (Rlc 2 q (Ci h q (λh=>?_) λh=>?_))))
 refine Rcl 2 q (WL.fn q q q q (f114_c) Zt (Zw q) q q (sS Z6 s42 Z2 (Rlx 6 q ?_)))
 obtain rfl:=Oi h
 exact am (rs1 q (aZ q q a42 s42 q)) (ak (Zs _))
 refine Rcc 9 q (Ci h q (λh=>?_) λh=>?_)
 refine Rcl 4 q (wF Z4 (f138_c) Lw Z3 (sS Z6 s42 Z2 (Rlx 6 q ?_)))
 obtain rfl:=Oi h
 exact am (rs1 q (aZ q q a42 s42 q)) (ak (Zs _))
 refine Rcl 6 q (wF Z4 (f139_c) Lw Z3 (sS Z6 s42 Z2 (Rlx 5 q ?_)))
 obtain rfl:=Oi h
 exact am (rs1 q (aZ q q a42 s42 q)) (ak (Zs _))
 refine Jn1 (λe=> [(0, .d (D.i .u8 a)),(4, .d (.pc (R42 a1))),(5, .d (.pc (R42 b2))),(6, .pt 0 0),(7, .l E2 [a1.lo,a1.hi]),(31, .d (D.i .u8 a)),(68, .d (D.b e))]) (λ_=> [.row 42 [.n 0, .n 0]]) h (λ_ h=>?_) (λe h=>?_)
 refine Rcc 6 q (Ci h q (λh=>Rcx 1 q (En1 h)) λh=>?_)
 refine Rcc 6 q (Ci h q (λh=>Rcx 1 q (En1 h)) λh=>?_)
 refine Rcc 6 q (Ci h q (λh=>Rcx 1 q (En1 h)) λh=>?_)
 refine Rcc 6 q (Ci h q (λh=>Rcx 1 q (En1 h)) λh=>?_)
 exact Rcc 6 q (Ci h q (λh=>Rcx 1 q (En1 h)) λh=>Rcx 4 q (En1 h))
 refine Ci h q (λh=>?_) (λh=>?_)
 refine Rcl 5 q ?_
 obtain⟨L,w,h⟩:=ae h
 refine wF Z4 (f140_c w) Lw Z3 (sS Z6 s42 Z2 (Rlx 5 q ?_))
 obtain rfl:=Oi h
 exact am (rs1 q (aZ q q a42 s42 q)) (ak (Zs _))
 refine Jn1 (λf=> [(0, .d (D.i .u8 a)),(4, .d (.pc (R42 a1))),(5, .d (.pc (R42 b2))),(6, .pt 0 0),(7, .l E2 [a1.lo,a1.hi]),(31, .d (D.i .u8 a)),(79, .d (D.b f))]) (λ_=> [.row 42 [.n 0, .n 0]]) h (λ_ h=>?_) (λf h=>?_)
 refine Rcc 6 q (Ci h q (λh=>Rcx 1 q (En1 h)) λh=>?_)
 exact Rcc 6 q (Ci h q (λh=>Rcx 1 q (En1 h)) λh=>Rcx 4 q (En1 h))
 refine Ci h q (λh=>?_) (λh=>?_)
 refine Rcl 5 q ?_
 obtain⟨M,x,h⟩:=ae h
 refine wF Z4 (f141_c x) Lw Z3 (sS Z6 s42 Z2 (Rlx 5 q ?_))
 obtain rfl:=Oi h
 exact am (rs1 q (aZ q q a42 s42 q)) (ak (Zs _))
 refine Rcc 6 q (Ci h q (λh=>?_) λh=>?_)
 refine Rcl 2 q (WL.s ((NewOs.b (ad l71 z2 q dC dC q q q dC)).does) (Zw q) q q (Rl 1 q ?_))
 refine WL.freezeX [89] [] 1 _ q (ai fg [0]) ⟨q,Zt⟩ Zt ?_
 obtain⟨N,y,h⟩:=ae h
 refine wF Z4 (f132_c _ _ _ 134 [] [] (λz0 z1 _ h=>by obtain rfl:=inS h;exact f134_c z0 z1) y) ⟨(Le.fnc Zt Zt),Zl,Zl,Zt⟩ Z3 (sS Z6 s42 Z2 (Rlx 5 q ?_))
 obtain rfl:=Oi h
 exact am (rs1 q (aZ q q a42 s42 q)) (ak (Zs _))
 refine Rcc 6 q (Ci h q (λh=>?_) λh=>?_)
 refine Rcl 2 q (WL.s ((NewOs.b (ad l71 z2 q dC dC q q q dC)).does) (Zw q) q q (Rl 1 q ?_))
 refine WL.freezeX [94] [] 1 _ q (ai fg [1]) ⟨q,Zt⟩ Zt ?_
 obtain⟨O,A,h⟩:=ae h
 refine wF Z4 (f132_c _ _ _ 134 [] [] (λz0 z1 _ h=>by obtain rfl:=inS h;exact f134_c z0 z1) A) ⟨(Le.fnc Zt Zt),Zl,Zl,Zt⟩ Z3 (sS Z6 s42 Z2 (Rlx 5 q ?_))
 obtain rfl:=Oi h
 exact am (rs1 q (aZ q q a42 s42 q)) (ak (Zs _))
 refine Rcc 6 q (Ci h q (λh=>?_) λh=>?_)
 refine Rcl 3 q ?_
 obtain⟨P,B,h⟩:=ae h
 refine wF Z4 (f142_c B) Lw Z3 (sS Z6 s42 Z2 (Rlx 5 q ?_))
 obtain rfl:=Oi h
 exact am (rs1 q (aZ q q a42 s42 q)) (ak (Zs _))
 refine Rcl 5 q (WL.fn q q q q (f114_c) Zt (Zw q) q q (sS Z6 s42 Z2 (Rlx 3 q ?_)))
 obtain rfl:=Oi h
 exact am (rs1 q (aZ q q a42 s42 q)) (ak (Zs _))

theorem f97_c{o0:Int}:Pu prog 97 [.i .u8 o0] (.b (f97 o0)):=by
 generalize h:f97 o0=r
 unfold f97 at h
 refine fI func97 λ_ _=>?_
 refine Rcl 10 q ?_
 refine AG 3 5 8 3 3 ?_
 exact Rlx 4 q (FB h)

theorem f24_c{v0:Int}:Pu prog 24 [.i .i64 v0] (.ag (R42 (f24 v0))):=by
 generalize h:f24 v0=r
 unfold f24 at h
 refine fI func24 λ_ _=>?_
 refine Rcl 2 q (Al z42 q (Rll 6 q (Zq (ac p42 z42 q q) q (sS Z6 s42 Z2 (Rlx 3 q ?_)))))
 subst h
 exact am (rs1 q (aZ q q a42 s42 q)) (ak (Zs _))

theorem f56_c{a:Int}{c:Int}:Pu prog 56 [.i .i64 a, .i .i64 c] (.ag (R42 (f56 a c))):=by
 generalize h:f56 a c=r
 unfold f56 at h
 refine fI func56 λ_ _=>?_
 refine Rcl 2 q (Al z42 q (Rll 6 q (Zq (ac p42 z42 q q) q (sS Z6 s42 Z2 (Rlx 3 q ?_)))))
 subst h
 exact am (rs1 q (aZ q q a42 s42 q)) (ak (Zs _))

theorem f118_c{v0:aa}:Pu prog 118 [.ag (R42 v0)] (.b (f118 v0)):=by
 generalize h:f118 v0=r
 unfold f118 at h
 refine fI func118 λ_ _=>?_
 exact Rcl 2 q (Bd q q (Zs _) q (Rlx 14 q (FB h)))

theorem f57_c{e:aa}{a:List aa}{r:aa}(h:f57 e a=some r):Pu prog 57 [.ag (R42 e), .sl (List.map E42 a)] (.ag (R42 r)):=by
 unfold f57 at h
 refine fI func57 λ_ _=>?_
 refine Rcl 2 q (Bx q q q (Al z42 q (Rlc 2 q (Jn2 (λ_ _=> [(2, .pt 0 0),(4, .pt 1 0)]) (λc00v21 c01v22=> [.row 42 [.n c00v21, .n c01v22], .row 42 [.n 0, .n 0]]) h (λf h=>?_) λc00v21 c01v22 h=>?_))))
 refine Rcl 3 q (Zq (ab E42 a e50 q q Zl) q (Rlc 4 q (Ln3 (λc _ _=> [(2, .pt 0 0),(4, .pt 1 0),(7, .l E42 a),(8, .n (List.length a:Int)),(9, .n c)]) (λ_ c00v28 c01v29=> [.row 42 [.n c00v28, .n c01v29], .row 42 [.n 0, .n 0]]) (f57_l1 a f) h (λ_ _ _ h=>by rw[f57_l1] at h;cases h) λn c c00v28 c01v29 h=>?_)))
 rw[f57_l1] at h
 refine Rcc 6 q (Ci h q (λh=>?_) λh=>?_)
 refine Rcl 6 q (Ix h e50 bL q Zl q q λj _ h=>(Rl 1 q (Al z42 q (sS Z6 s42 Z2 (Rll 5 q ?_)))))
 obtain⟨k,g,h⟩:=ae h
 exact wF Z4 (f87_c g) ⟨(ak (Zs _)),(ak (Zs _)),Zt⟩ Z3 (sS Z6 s42 Z2 (Rlx 7 q (WE.drop 2 (env':=[(2, .pt 0 0),(4, .pt 1 0),(7, .l E42 a),(8, .n (List.length a:Int)),(9, .n (IntKind.i64.wrap (c+1)))]) Sb q q (Nat.zero_le _) (Fn3 h))))
 exact Rcx 4 q (En2 h)
 refine Rcl 3 q (sS Z6 s42 Z2 (Rlx 3 q ?_))
 obtain rfl:=Oi h
 exact am (rs1 q (aZ q q a42 s42 q)) (ak (Zs _))

theorem f25_c{o0:Obj}{r:aa}(h:f25 o0=some r):Pu prog 25 [.ag (R53 o0)] (.ag (R42 r)):=by
 unfold f25 at h
 refine fI func25 λ_ _=>?_
 refine Rcl 2 q (Bd q q (Zs _) q (Al z42 q (Rlc 10 q (Ci h q (λh=>?_) λh=>?_))))
 refine Rcl 6 q (wF Z4 (f56_c) Lw Z3 (sS Z6 s42 Z2 (Rlx 4 q ?_)))
 obtain rfl:=Oi h
 exact am (rs1 q (aZ q q a42 s42 q)) (ak (Zs _))
 refine Rcl 4 q (wF Z4 (f24_c) Lw Z3 (Al z42 q (sS Z6 s42 Z2 (Rlc 2 q (Jn2 (λ_ _=> [(2, .pt 0 0),(3, .pt 1 0)]) (λc10v32 c11v33=> [.row 42 [.n 0, .n 0], .row 42 [.n c10v32, .n c11v33]]) h (λe h=>?_) λc10v32 c11v33 h=>?_)))))
 refine Rcl 4 q (Zq (ab E3 o0.set_ e51 q q Zl) q (Rlc 4 q (Ln3 (λa _ _=> [(2, .pt 0 0),(3, .pt 1 0),(16, .l E3 o0.set_),(17, .n (List.length o0.set_:Int)),(18, .n a)]) (λ_ c10v39 c11v40=> [.row 42 [.n 0, .n 0], .row 42 [.n c10v39, .n c11v40]]) (f25_l1 o0 e) h (λ_ _ _ h=>by rw[f25_l1] at h;cases h) λn a c10v39 c11v40 h=>?_)))
 rw[f25_l1] at h
 refine Rcc 6 q (Ci h q (λh=>?_) λh=>?_)
 refine Rcl 6 q (Ix h e51 du q Zl q q λf _ h=>(Rlc 4 q ?_))
 obtain⟨c,g,h⟩:=ae h
 apply RT [_,_,_,_,_,_, .u] [6] [[.row 42 [.n 0, .n 0], .row 42 [.n c.lo, .n c.hi]]] [p01 3,p01 5,p10 1,p10 2,p10 3,p20 0 4,p11 5 3] kR kR q q
 refine Y3 ?_
 refine zo (λ_=>wF Z4 (f24_c) Lw Z3 (Zd q q q)) ?_
 refine zo (λ_=>WL.s ((NewOs.data (ad l50 z42 q dC dC q q q dC) (by exact ai bL [(f24 (IntKind.i64.wrap (f+1)))])).does) (Zw q) q q (Zd q q q)) ?_
 refine zo (λ_=>wF Z4 (f57_c g) ⟨(ak (Zs _)),Zl,Zt⟩ Z3 (Zd q q q)) ?_
 exact zo (λ_=>sS Z6 s42 Z2 (aJ q q)) Zt
 exact Rxx 6 q (Fn3 h)
 exact Rcx 4 q (En2 h)
 refine Rcl 3 q (sS Z6 s42 Z2 (Rlx 3 q ?_))
 obtain rfl:=Oi h
 exact am (rs1 q (aZ q q a42 s42 q)) (ak (Zs _))

theorem f121_c{v0:aa}:Pu prog 121 [.ag (R42 v0)] (.ag (R42 (f121 v0))):=by
 generalize h:f121 v0=r
 unfold f121 at h
 refine fI func121 λ_ _=>?_
 refine Rcl 2 q (Bx q q q (Al z42 q (Rlc 2 q (Jn1 (λ_=> [(1, .pt 0 0),(2, .pt 1 0)]) (λc00v20=> [.row 42 [.n c00v20, .n v0.hi], .row 42 [.n 0, .n 0]]) h (λ_ h=>?_) λc00v20 h=>?_))))
 exact Rcc 7 q (Ci h q (λh=>Rcl 5 q (sS Z6 s2 Z2 (Rlx 1 q (En1 h)))) λh=>Rcx 1 q (En1 h))
 refine Jn1 (λ_=> [(1, .pt 0 0),(2, .pt 1 0)]) (λc01v22=> [.row 42 [.n c00v20, .n c01v22], .row 42 [.n 0, .n 0]]) h (λ_ h=>?_) (λc01v22 h=>?_)
 exact Rcc 7 q (Ci h q (λh=>Rcl 5 q (sS Z6 s2 Z2 (Rlx 1 q (En1 h)))) λh=>Rcx 1 q (En1 h))
 refine Rcl 3 q (sS Z6 s42 Z2 (Rlx 3 q ?_))
 subst h
 exact am (rs1 q (aZ q q a42 s42 q)) (ak (Zs _))

theorem f117_c{a0:aa}{b1:aa}:Pu prog 117 [.ag (R42 a0), .ag (R42 b1)] (.ag (R42 (f117 a0 b1))):=by
 generalize h:f117 a0 b1=r
 unfold f117 at h
 refine fI func117 λ_ _=>?_
 refine Rcl 2 q (Bd q q (Zs _) q (Bd q q (Zs _) q (Al z42 q (Rll 9 q (Zq (eU q q q) q (Rl 4 q (Zq (gG q q q) q (Zq (ac p42 z42 q q) q (Al z42 q (sS Z6 s42 Z2 (Rll 5 q (wF Z4 (f103_c (aa.mk (if b1.lo>a0.lo then b1.lo else a0.lo) (if b1.hi<a0.hi then b1.hi else a0.hi))) ⟨(ak (Zs _)),Zt⟩ Z3 (Rlc 3 q (Ci h q (λh=>?_) λh=>?_))))))))))))))
 refine Rcl 3 q (sS Z6 s42 Z2 (Rlx 4 q ?_))
 subst h
 exact am (rs1 q (aZ q q a42 s42 q)) (ak (Zs _))
 refine Rcl 4 q (WL.fn q q q q (f114_c) Zt (Zw q) q q (sS Z6 s42 Z2 (Rlx 3 q ?_)))
 subst h
 exact am (rs1 q (aZ q q a42 s42 q)) (ak (Zs _))

theorem f100_c{a0:aa}{b1:aa}{a:aa}{r:aa}(h:f100 a0 b1 a=some r):Pu prog 100 [.ag (R42 a0), .ag (R42 b1), .ag (R42 a)] (.ag (R42 r)):=by
 unfold f100 at h
 refine fI func100 λ_ _=>?_
 refine Rcl 2 q (Bd q q (Zs _) q (Bd q q (Zs _) q (Bd q q (Zs _) q (Al z42 q (Rll 6 q (wF Z4 (f103_c _) Lw Z3 (Rl 1 q ?_)))))))
 apply WL.or 3 (t:=10) (d:=13)
 exact q
 intro e
 exact Rl 1 q (WL.fn q q q q (f103_c _) Lw (aG q q q) q q (Rl 1 q (WL.nil ⟨q,[_,_,_],q,q,q⟩)))
 exact Rn 3 3
 refine Rlc 2 q (Ci h q (λh=>?_) λh=>?_)
 refine Rcl 4 q ?_
 obtain⟨f,c,h⟩:=ae h
 refine wF Z4 (f87_c c) Lw Z3 (sS Z6 s42 Z2 (Rlx 4 q ?_))
 obtain rfl:=Oi h
 exact am (rs1 q (aZ q q a42 s42 q)) (ak (Zs _))
 refine Rcl 4 q (WL.fn q q q q (f124_c) Zt (Zw q) q q (Al z42 q (sS Z6 s42 Z2 (Rlc 2 q (Jn1 (λ_=> [(3, .d (.pc (R42 a0))),(4, .d (.pc (R42 b1))),(5, .d (.pc (R42 a))),(6, .pt 0 0),(7, .pt 1 0)]) (λc10v60=> [.row 42 [.n 0, .n 0], .row 42 [.n c10v60, .n f124.hi]]) h (λ_ h=>?_) λc10v60 h=>?_)))))
 refine Rcc 11 q (Ci h q (λh=>Rcl 4 q (sS Z6 s2 Z2 (Rlx 2 q (En1 h)))) λh=>?_)
 exact Rcc 10 q (Ci h q (λh=>Rcl 4 q (sS Z6 s2 Z2 (Rlx 2 q (En1 h)))) λh=>Rcx 2 q (En1 h))
 refine Jn1 (λ_=> [(6, .pt 0 0),(7, .pt 1 0)]) (λc11v62=> [.row 42 [.n 0, .n 0], .row 42 [.n c10v60, .n c11v62]]) h (λ_ h=>?_) (λc11v62 h=>?_)
 refine Rcc 11 q (Ci h q (λh=>Rcl 4 q (sS Z6 s2 Z2 (Rlx 2 q (En1 h)))) λh=>?_)
 exact Rcc 10 q (Ci h q (λh=>Rcl 4 q (sS Z6 s2 Z2 (Rlx 2 q (En1 h)))) λh=>Rcx 2 q (En1 h))
 refine Rcl 3 q (sS Z6 s42 Z2 (Rlx 3 q ?_))
 obtain rfl:=Oi h
 exact am (rs1 q (aZ q q a42 s42 q)) (ak (Zs _))

end Go.Proofs.YtkbpoeellidgeaaGreatDoor
