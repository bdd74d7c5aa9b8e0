/- The walk of the sweep. -/
import Derived.Test.YtkbpoeellidgeaaGreatDoorWf
set_option linter.unusedVariables false
set_option linter.unusedSimpArgs false
set_option linter.unusedSectionVars false
set_option linter.unnecessarySimpa false
set_option maxHeartbeats 4000000
set_option maxRecDepth 100000
namespace Go.Proofs.YtkbpoeellidgeaaGreatDoor
open Go.Proofs.Tryz
open Go Go.Sk

theorem f60m_c{sl:List (List aa)}{v1:aa}{c:aa}{e:Bool}{o:Int}{k:Int}{vo:Nat}{vf:Nat}{r:Bool×(List (List aa))}(h:f60m sl v1 c e o k=some r):Ctr prog 60 [.pem 1 (Int.toNat o) vf (Int.toNat k*2), .d (.ag (R42 v1)), .d (.ag (R42 c)), .d (D.b e)] [.os 50 1 vo (aX 1 vf (List.length sl)), .fam 42 2 vf (bf R42 sl)] (fa 2 (λr' new=>r'= .d (.b r.1)∧new=[.os 50 1 vo (aX 1 vf (List.length r.2)), .fam 42 2 vf (bf R42 r.2)])):=by
 unfold f60m at h
 refine cI func60 λ_ _ _ hmm=>?_
 refine Rcl 2 q (Bd q q (Zs _) q (Bd q q (Zs _) q (Rlc 5 q (av kR kR (Rq 2 q (WQ.qn (eB q q) q ?_))))))
 obtain⟨x,y,h⟩:=ae h
 obtain⟨A,B,h⟩:=ae h
 refine WQ.qn (fq (E:=R42) (L:=sl) (M:=x) (v:=A) (i:=k) q q (aU y) B (λ_=>q) s42 a42) q (WQ.q (YieldsQ.fn q q q q q (f65_c _ _) Lw) (Zw q) q q (WQ.nil (Rxc 1 q (Ci h q (λh=>?_) λh=>?_))))
 refine Rcx 7 q ?_
 obtain rfl:=Oi h
 exact aw (new:=[.os 50 1 vo (aX 1 vf (List.length sl)), .fam 42 2 vf (bf R42 sl)]) (r0:= .d (.b false)) (rs1 q (aR q)) Zl q ⟨Zf,Zf,Zt⟩ ⟨q,q⟩
 refine Rcc 3 q ?_
 obtain⟨f,g,h⟩:=ae h
 obtain⟨j,m,h⟩:=ae h
 obtain⟨p,t,h⟩:=ae h
 apply RT [_,_,_,_,_,_,_, .u] [6,7] [[.os 50 1 vo (aX 1 vf (List.length sl)), .fam 42 2 vf (bf R42 sl), .row 42 [.n 0, .n 0]],[.os 50 1 vo (aX 1 vf (List.length sl)), .fam 42 2 vf (bf R42 sl), .row 42 [.n p.lo, .n p.hi]]] [u01 0,u10 0,u10 1,u01 5,u10 3,u20 2 4,p00,q20 6 5 1] kR kR q q
 refine X2a ?_
 refine⟨⟨λ_=>Zq (eB q q) q (Zd q q q),λ_=>Zq (eB q q) q (Zd q q q),Zt⟩,?_⟩
 refine⟨⟨λ_=>Zq (fq (E:=R42) (L:=sl) (M:=f) (v:=j) (i:=k) q q (aU g) m (λ_=>q) s42 a42) q (Zd q q q),λ_=>Zq (fq (E:=R42) (L:=sl) (M:=f) (v:=j) (i:=k) q q (aU g) m (λ_=>q) s42 a42) q (Zd q q q),Zt⟩,?_⟩
 refine X2a ?_
 refine⟨⟨λ_=>WL.s ((NewOs.data (ad l50 z42 q dC dC q q q dC) (by exact ai bL [v1])).does) (Zw q) q q (Zd q q q),λ_=>WL.s ((NewOs.data (ad l50 z42 q dC dC q q q dC) (by exact ai bL [v1])).does) (Zw q) q q (Zd q q q),Zt⟩,?_⟩
 refine⟨⟨λ_=>wF Z4 (f57_c t) Lw Z3 (Zd q q q),λ_=>wF Z4 (f57_c t) Lw Z3 (Zd q q q),Zt⟩,?_⟩
 refine zo (λ_=>Al z42 q (Zd q q q)) ?_
 exact zo (λ_=>sS Z6 s42 Z2 (aJ q q)) Zt
 refine Rxc 1 q (Jn2 (λ_ _=> [(0, .pem 1 (Int.toNat o) vf (Int.toNat k*2)),(9, .pt 2 0)]) (λc20v41 c21v42=> [.os 50 1 vo (aX 1 vf (List.length sl)), .fam 42 2 vf (bf R42 sl), .row 42 [.n c20v41, .n c21v42]]) h (λ_ h=>?_) λc20v41 c21v42 h=>?_)
 refine Rcc 5 q (Ci h q (λh=>?_) λh=>?_)
 obtain⟨C,F,h⟩:=ae h
 obtain⟨G,H,h⟩:=ae h
 obtain⟨w,I,h⟩:=ae h
 apply RT [_,_,_,_,_,_, .u] [6] [[.os 50 1 vo (aX 1 vf (List.length sl)), .fam 42 2 vf (bf R42 sl), .row 42 [.n w.lo, .n w.hi]]] [p01 0,p10 0,p10 1,p01 9,p01 6,p30 2 3 4,p11 5 9] kR kR q q
 refine Y1 ?_
 refine zo (λ_=>Zq (eB q q) q (Zd q q q)) ?_
 refine zo (λ_=>Zq (fq (E:=R42) (L:=sl) (M:=C) (v:=G) (i:=k) q q (aU F) H (λ_=>q) s42 a42) q (Zd q q q)) ?_
 refine Y2 ?_
 refine zo (λ_=>wF Z4 (f100_c I) ⟨Zl,(ak (Zs _)),Zl,Zt⟩ Z3 (Zd q q q)) ?_
 exact zo (λ_=>sS Z6 s42 Z2 (aJ q q)) Zt
 exact En2 h
 exact Rcx 1 q (En2 h)
 refine Rcl 4 q (Zq (eB q q) q ?_)
 obtain⟨a,K,h⟩:=ae h
 obtain⟨N,O,h⟩:=ae h
 refine WL.s0 (kr (E:=R42) (L:=sl) (M:=a) (v:=N) (z:=(aa.mk c20v41 c21v42)) (i:=k) q q (aU K) O (λ_=>q) q q Lw q s42) (Zw q) q (WL.st (st':=[.os 50 1 vo (aX 1 vf (List.length (List.set sl (Int.toNat o) (List.set a (Int.toNat k) (aa.mk c20v41 c21v42))))), .fam 42 2 vf (bf R42 (List.set sl (Int.toNat o) (List.set a (Int.toNat k) (aa.mk c20v41 c21v42)))), .row 42 [.n c20v41, .n c21v42]]) (by show([.os 50 1 vo (aX 1 vf (List.length sl)), .fam 42 2 vf (bf R42 (List.set sl (Int.toNat o) (List.set a (Int.toNat k) (aa.mk c20v41 c21v42)))), .row 42 [.n c20v41, .n c21v42]]:lW)=_;rw[List.length_set]) (Rlx 8 q ?_))
 obtain rfl:=Oi h
 exact aw (new:=[.os 50 1 vo (aX 1 vf (List.length (List.set sl (Int.toNat o) (List.set a (Int.toNat k) (aa.mk c20v41 c21v42))))), .fam 42 2 vf (bf R42 (List.set sl (Int.toNat o) (List.set a (Int.toNat k) (aa.mk c20v41 c21v42))))]) (r0:= .d (.b true)) (rs1 q (aR q)) Zl q ⟨Zf,Zf,Zt⟩ ⟨q,q⟩

theorem f60e_c{fc:List aj}{v1:aa}{e:aa}{f:Bool}{a:Int}{kq:Int}{vc:Nat}{r:Bool×(List aj)}(h:f60e fc v1 e f a kq=some r):Ctr prog 60 [.pe 0 vc (Int.toNat a*33+1+Int.toNat kq*2), .d (.ag (R42 v1)), .d (.ag (R42 e)), .d (D.b f)] [.os 45 33 vc (eM R45 fc)] (fa 1 (λr' new=>r'= .d (.b r.1)∧new=[.os 45 33 vc (eM R45 r.2)])):=by
 unfold f60e at h
 refine cI func60 λ_ _ _ hmm=>?_
 refine Rcl 2 q (Bd q q (Zs _) q (Bd q q (Zs _) q (Rlc 5 q (av kR kR (Rq 2 q (WQ.qn (bY q q) q ?_))))))
 replace h:=aD h
 obtain⟨x,h⟩:=h
 obtain⟨y,A,h⟩:=ae h
 refine WQ.qn (ft (fo:=1) (N:=32) (n:=16) (i:=a) R42 y.r (λ_=>q) q q q q a42 s42 (λ_=>q) A q q x) q (WQ.q (YieldsQ.fn q q q q q (f65_c _ _) Lw) (Zw q) q q (WQ.nil (Rxc 1 q (Ci h q (λh=>?_) λh=>?_))))
 refine Rcx 7 q ?_
 obtain rfl:=Oi h
 exact aw (new:=[.os 45 33 vc (eM R45 fc)]) (r0:= .d (.b false)) (rs1 q (aR q)) Zl q ⟨Zf,Zt⟩ ⟨q,q⟩
 refine Rcc 3 q ?_
 replace h:=aD h
 obtain⟨g,h⟩:=h
 obtain⟨j,m,h⟩:=ae h
 obtain⟨p,t,h⟩:=ae h
 apply RT [_,_,_,_,_,_,_, .u] [6,7] [[.os 45 33 vc (eM R45 fc), .row 42 [.n 0, .n 0]],[.os 45 33 vc (eM R45 fc), .row 42 [.n p.lo, .n p.hi]]] [u01 0,u10 0,u10 1,u01 5,u10 3,u20 2 4,p00,q20 6 5 1] kR kR q q
 refine X2a ?_
 refine⟨⟨λ_=>Zq (bY q q) q (Zd q q q),λ_=>Zq (bY q q) q (Zd q q q),Zt⟩,?_⟩
 refine⟨⟨λ_=>Zq (ft (fo:=1) (N:=32) (n:=16) (i:=a) R42 j.r (λ_=>q) q q q q a42 s42 (λ_=>q) m q q g) q (Zd q q q),λ_=>Zq (ft (fo:=1) (N:=32) (n:=16) (i:=a) R42 j.r (λ_=>q) q q q q a42 s42 (λ_=>q) m q q g) q (Zd q q q),Zt⟩,?_⟩
 refine X2a ?_
 refine⟨⟨λ_=>WL.s ((NewOs.data (ad l50 z42 q dC dC q q q dC) (by exact ai bL [v1])).does) (Zw q) q q (Zd q q q),λ_=>WL.s ((NewOs.data (ad l50 z42 q dC dC q q q dC) (by exact ai bL [v1])).does) (Zw q) q q (Zd q q q),Zt⟩,?_⟩
 refine⟨⟨λ_=>wF Z4 (f57_c t) Lw Z3 (Zd q q q),λ_=>wF Z4 (f57_c t) Lw Z3 (Zd q q q),Zt⟩,?_⟩
 refine zo (λ_=>Al z42 q (Zd q q q)) ?_
 exact zo (λ_=>sS Z6 s42 Z2 (aJ q q)) Zt
 refine Rxc 1 q (Jn2 (λ_ _=> [(0, .pe 0 vc (Int.toNat a*33+1+Int.toNat kq*2)),(9, .pt 1 0)]) (λc10v41 c11v42=> [.os 45 33 vc (eM R45 fc), .row 42 [.n c10v41, .n c11v42]]) h (λ_ h=>?_) λc10v41 c11v42 h=>?_)
 refine Rcc 5 q (Ci h q (λh=>?_) λh=>?_)
 replace h:=aD h
 obtain⟨B,h⟩:=h
 obtain⟨C,E,h⟩:=ae h
 obtain⟨w,F,h⟩:=ae h
 apply RT [_,_,_,_,_,_, .u] [6] [[.os 45 33 vc (eM R45 fc), .row 42 [.n w.lo, .n w.hi]]] [p01 0,p10 0,p10 1,p01 9,p01 6,p30 2 3 4,p11 5 9] kR kR q q
 refine Y1 ?_
 refine zo (λ_=>Zq (bY q q) q (Zd q q q)) ?_
 refine zo (λ_=>Zq (ft (fo:=1) (N:=32) (n:=16) (i:=a) R42 C.r (λ_=>q) q q q q a42 s42 (λ_=>q) E q q B) q (Zd q q q)) ?_
 refine Y2 ?_
 refine zo (λ_=>wF Z4 (f100_c F) ⟨Zl,(ak (Zs _)),Zl,Zt⟩ Z3 (Zd q q q)) ?_
 exact zo (λ_=>sS Z6 s42 Z2 (aJ q q)) Zt
 exact En2 h
 exact Rcx 1 q (En2 h)
 refine Rcl 4 q (Zq (bY q q) q ?_)
 replace h:=aD h
 obtain⟨G,h⟩:=h
 obtain⟨c,H,h⟩:=ae h
 refine WL.s0 (nB (R:=R45) (k:=33) (i:=a) (fo:=1) (N:=32) (n:=16) R42 c.r (aa.mk c10v41 c11v42) (aj.mk c.reached (be c.r (Int.toNat kq) (aa.mk c10v41 c11v42))) (λ_=>q) q q q q q (ak (Zs _)) q s42 (λ_=>q) H q q G q) (Zw q) q (Rlx 8 q ?_)
 obtain rfl:=Oi h
 exact aw (new:=[.os 45 33 vc (eM R45 (List.set fc (Int.toNat a) (aj.mk c.reached (be c.r (Int.toNat kq) (aa.mk c10v41 c11v42)))))]) (r0:= .d (.b true)) (rs1 q (aR q)) Zl q ⟨Zf,Zt⟩ ⟨q,q⟩

theorem f26_c{t:al}{rg:List aa}{pc:Int}{rr:Nat→aa}{fc:List aj}{sl:List (List aa)}{w:Bool}{vc:Nat}{vo:Nat}{vf:Nat}{r:Bool×Int×(Nat→aa)×(List aj)×(List (List aa))}(h:f26 t rg pc rr fc sl w=some r):Ctr prog 26 [.pt 0 0, .d (D.b w)] [.row 68 ((tR t (.l E42 rg) (.os 1 vc) (.os 2 vo) (.n pc))++(bg 32 (λj=> .d (aO R42 rr j))++([.u, .u]:lV):lV)), .os 45 33 vc (eM R45 fc), .os 50 1 vo (aX 3 vf (List.length sl)), .fam 42 2 vf (bf R42 sl)] (fa 4 (λr' new=>r'= .d (.b r.1)∧new=[.row 68 ((tR t (.l E42 rg) (.os 1 vc) (.os 2 vo) (.n r.2.1))++(bg 32 (λj=> .d (aO R42 r.2.2.1 j))++([.u, .u]:lV):lV)), .os 45 33 vc (eM R45 r.2.2.2.1), .os 50 1 vo (aX 3 vf (List.length r.2.2.2.2)), .fam 42 2 vf (bf R42 r.2.2.2.2)])):=by
 unfold f26 at h
 refine cI func26 λ_ _ _ hmm=>?_
 refine Rcc 10 q (Jn5 (λchanged158 _ _ _ _=> [(5, .d (D.b changed158))]) (λ_ a8 S c014v161 c015v162=> [.row 68 ((tR t (.l E42 rg) (.os 1 vc) (.os 2 vo) (.n c014v161))++(bg 32 (λj=> .d (aO R42 c015v162 j))++([.u, .u]:lV):lV)), .os 45 33 vc (eM R45 a8), .os 50 1 vo (aX 3 vf (List.length S)), .fam 42 2 vf (bf R42 S)]) h (λcn h=>?_) λchanged158 a8 S c014v161 c015v162 h=>?_)
 refine Rcl 6 q (Zq (gI (a9 R45) fc e36 q q q) q (Rlc 4 q (Ln6 (λchanged170 f _ _ _ _=> [(0, .pt 0 0),(1, .d (D.b w)),(5, .d (D.b changed170)),(18, .n (List.length fc:Int)),(19, .n f)]) (λ_ _ x y c014v174 c015v175=> [.row 68 ((tR t (.l E42 rg) (.os 1 vc) (.os 2 vo) (.n c014v174))++(bg 32 (λj=> .d (aO R42 c015v175 j))++([.u, .u]:lV):lV)), .os 45 33 vc (eM R45 x), .os 50 1 vo (aX 3 vf (List.length y)), .fam 42 2 vf (bf R42 y)]) (f26_l1 t rg fc w cn) h (λ_ _ _ _ _ _ h=>by rw[f26_l1] at h;cases h) λn changed170 f x y c014v174 c015v175 h=>?_)))
 rw[f26_l1] at h
 refine Rcc 6 q (Ci h q (λh=>?_) λh=>?_)
 refine Rcc 2 q (Jn5 (λchanged182 _ _ _ _=> [(0, .pt 0 0),(1, .d (D.b w)),(5, .d (D.b changed182)),(18, .n (List.length fc:Int)),(19, .n f)]) (λ_ b1 a' c014v185 c015v186=> [.row 68 ((tR t (.l E42 rg) (.os 1 vc) (.os 2 vo) (.n c014v185))++(bg 32 (λj=> .d (aO R42 c015v186 j))++([.u, .u]:lV):lV)), .os 45 33 vc (eM R45 b1), .os 50 1 vo (aX 3 vf (List.length a')), .fam 42 2 vf (bf R42 a')]) h (λb2 h=>?_) λchanged182 b1 a' c014v185 c015v186 h=>?_)
 refine Rcl 15 q ?_
 obtain⟨df,b3,h⟩:=ae h
 refine Zq (lU e36 q q q b3) q (Zq (cu f45_0 q q) q (Zq (iI (fo:=0) q q q a4 (λ_=>q) b3 q) q (Rlc 3 q (Ci h q (λh=>?_) λh=>?_))))
 exact Rcx 3 q (En5 h)
 refine Rcl 12 q ?_
 obtain⟨U,b4,h⟩:=ae h
 refine Zq (lU e36 q q q b4) q (Zq (cu f45_1 q q) q (Zq (gH (fo:=1) q q q a43 s43 (λ_=>q) b4 q q) q (Rl 2 q (sS Z6 s3 Z2 (St q (Rl 2 q (sS Z6 s43 Z2 (St q (Rll 6 q (WL.s ((eS (α:=aa) kP aP).does) (Zw q) q q (WL.s ((eS (α:=Nat→aa) kW aW).does) (Zw q) q q (Rl 2 q (sS Z6 s65 Z2 (St q (Rl 2 q (sS Z6 s66 Z2 (St q (Rll 5 q ?_))))))))))))))))))
 obtain⟨a0,cp,h⟩:=ae h
 refine qm (as0:=[.pt 0 0, .d (D.b true)]) (T:=68) (csA:=[.l E59 t.insns, .l cq t.handlers, .l cM t.loops, .l E98 t.selects, .l E51 t.lists, .l E53 t.objs, .l E80 t.inits, .n t.excs, .l E48 t.tasks, .l E87 t.prots, .l E95 t.checks, .l E42 rg, .os 1 vc, .os 2 vo]) (csB0:=(([.n f]:lV)++(bg 32 (λj=> .d (aO R42 U.r j))++([.mp 1, .mp 2]:lV):lV))) (dsA:=[(.sl (List.map E59 t.insns)),(.sl (List.map cq t.handlers)),(.sl (List.map cM t.loops)),(.sl (List.map E98 t.selects)),(.sl (List.map E51 t.lists)),(.sl (List.map E53 t.objs)),(.sl (List.map E80 t.inits)),(D.i .i64 t.excs),(.sl (List.map E48 t.tasks)),(.sl (List.map E87 t.prots)),(.sl (List.map E95 t.checks)),(.sl (List.map E42 rg)),(.sl (List.map E45 x)),(.sl (List.map E50 y))]) (mps0:=[mP ([]:List ((Int×Int)×aa)),mW ([]:List (Int×(Nat→aa)))]) [0,4,5] q q q q q (λky=>(by exact f58_c cp (ky:=ky))) Lw q dC q q (cR (d4 _ kP dP _) (cR (d4 _ kW dW _) q)) ⟨q,q,Zt⟩ q (ay (cv _ kP dP _) (ay (cv _ kW dW _) q)) (.mp (λ_=>q) (.mp (λ_=>q) .nil)) ⟨Vw.d,Vw.d,Vw.d,Vw.d,Vw.d,Vw.d,Vw.d,Vw.d,Vw.d,Vw.d,Vw.d,Vw.d,Vw.os (js:=[0,4,5]) (E:=R45) (L:=x) q dC (c7 q) λ_=>q,Vw.fam (E:=R42) (L:=y) (js:=[0,4,5]) (oid:=2) (fid:=3) q q q dC dC (c7 q) λ_=>q,Zt⟩ (Zw q) q q (λky r' new hS=>?_)
 obtain⟨rfl,rfl⟩:=hS
 refine⟨(([.n f]:lV)++(bg 32 (λj=> .d (aO R42 U.r j))++([.mp 1, .mp 2]:lV):lV)),[mP ([]:List ((Int×Int)×aa)),mW a0],_,_,_,q,q,q,q,(.mp (λ_=>q) (.mp (λ_=>q) .nil)),q,(ay (cv _ kP dP _) (ay (cv _ kW dW _) q)),q,q,(cR (d4 _ kP dP _) (cR (d4 _ kW dW _) q)),?_⟩
 refine St q (Rll 10 q (Ix h e22 c9 q Zl q q λe _ h=>(Rl 1 q (Al z59 q (sS Z6 s59 Z2 (St q (Rlc 3 q ?_)))))))
 obtain⟨ds,cx,h⟩:=ae h
 obtain⟨c,cz,h⟩:=ae h
 apply RT [_,_,_,_,_,_] [5] [[.row 68 ((tR t (.l E42 rg) (.os 1 vc) (.os 2 vo) (.n f))++(bg 32 (λj=> .d (aO R42 c.1 j))++([.mp 4, .mp 5]:lV):lV)), .os 45 33 vc (eM R45 x), .os 50 1 vo (aX 3 vf (List.length y)), .fam 42 2 vf (bf R42 y),mP c.2.1,mW c.2.2, .row 59 [.d (D.i .u8 e.op), .n e.d, .n e.a, .n e.b, .n e.n, .n e.m, .n e.to]]] [p01 0,p01 7,p10 1,p20 0 2,p01 7,p20 3 4] kR kR q q
 refine Y3 ?_
 refine zo (λ_=>?_) ?_
 refine qm (as0:=[.pt 0 0, .d (D.i .u8 e.op)]) (T:=68) (csA:=[.l E59 t.insns, .l cq t.handlers, .l cM t.loops, .l E98 t.selects, .l E51 t.lists, .l E53 t.objs, .l E80 t.inits, .n t.excs, .l E48 t.tasks, .l E87 t.prots, .l E95 t.checks, .l E42 rg, .os 1 vc, .os 2 vo]) (csB0:=(([.n f]:lV)++(bg 32 (λj=> .d (aO R42 U.r j))++([.mp 1, .mp 2]:lV):lV))) (dsA:=[(.sl (List.map E59 t.insns)),(.sl (List.map cq t.handlers)),(.sl (List.map cM t.loops)),(.sl (List.map E98 t.selects)),(.sl (List.map E51 t.lists)),(.sl (List.map E53 t.objs)),(.sl (List.map E80 t.inits)),(D.i .i64 t.excs),(.sl (List.map E48 t.tasks)),(.sl (List.map E87 t.prots)),(.sl (List.map E95 t.checks)),(.sl (List.map E42 rg)),(.sl (List.map E45 x)),(.sl (List.map E50 y))]) (mps0:=[mP ([]:List ((Int×Int)×aa)),mW a0]) [0,4,5] q q q q q (λky=>(by exact f59_c cx (ky:=ky))) Lw q dC q q (cR (d4 _ kP dP _) (cR (d4 _ kW dW _) q)) ⟨q,q,Zt⟩ q (ay (cv _ kP dP _) (ay (cv _ kW dW _) q)) (.mp (λ_=>q) (.mp (λ_=>q) .nil)) ⟨Vw.d,Vw.d,Vw.d,Vw.d,Vw.d,Vw.d,Vw.d,Vw.d,Vw.d,Vw.d,Vw.d,Vw.d,Vw.os (js:=[0,4,5]) (E:=R45) (L:=x) q dC (c7 q) λ_=>q,Vw.fam (E:=R42) (L:=y) (js:=[0,4,5]) (oid:=2) (fid:=3) q q q dC dC (c7 q) λ_=>q,Zt⟩ (Zw q) q q (λky r' new hS=>?_)
 obtain⟨rfl,rfl⟩:=hS
 refine⟨(([.n f]:lV)++(bg 32 (λj=> .d (aO R42 U.r j))++([.mp 1, .mp 2]:lV):lV)),[mP ([]:List ((Int×Int)×aa)),mW a0],_,_,_,q,q,q,q,(.mp (λ_=>q) (.mp (λ_=>q) .nil)),q,(ay (cv _ kP dP _) (ay (cv _ kW dW _) q)),q,q,(cR (d4 _ kP dP _) (cR (d4 _ kW dW _) q)),?_⟩
 exact Zd q q q
 refine Y1 ?_
 refine zo (λ_=>?_) Zt
 refine qm (as0:=[.pt 0 0, .d (.ag (R59 e))]) (T:=68) (csA:=[.l E59 t.insns, .l cq t.handlers, .l cM t.loops, .l E98 t.selects, .l E51 t.lists, .l E53 t.objs, .l E80 t.inits, .n t.excs, .l E48 t.tasks, .l E87 t.prots, .l E95 t.checks, .l E42 rg, .os 1 vc, .os 2 vo]) (csB0:=(([.n f]:lV)++(bg 32 (λj=> .d (aO R42 U.r j))++([.mp 1, .mp 2]:lV):lV))) (dsA:=[(.sl (List.map E59 t.insns)),(.sl (List.map cq t.handlers)),(.sl (List.map cM t.loops)),(.sl (List.map E98 t.selects)),(.sl (List.map E51 t.lists)),(.sl (List.map E53 t.objs)),(.sl (List.map E80 t.inits)),(D.i .i64 t.excs),(.sl (List.map E48 t.tasks)),(.sl (List.map E87 t.prots)),(.sl (List.map E95 t.checks)),(.sl (List.map E42 rg)),(.sl (List.map E45 x)),(.sl (List.map E50 y))]) (mps0:=[mP ([]:List ((Int×Int)×aa)),mW a0]) [0,4,5] q q q q q (λky=>(by exact fm_c cz (ky:=ky))) ⟨Zl,(ak (Zs _)),Zt⟩ q dC q q (cR (d4 _ kP dP _) (cR (d4 _ kW dW _) q)) ⟨q,q,Zt⟩ q (ay (cv _ kP dP _) (ay (cv _ kW dW _) q)) (.mp (λ_=>q) (.mp (λ_=>q) .nil)) ⟨Vw.d,Vw.d,Vw.d,Vw.d,Vw.d,Vw.d,Vw.d,Vw.d,Vw.d,Vw.d,Vw.d,Vw.d,Vw.os (js:=[0,4,5]) (E:=R45) (L:=x) q dC (c7 q) λ_=>q,Vw.fam (E:=R42) (L:=y) (js:=[0,4,5]) (oid:=2) (fid:=3) q q q dC dC (c7 q) λ_=>q,Zt⟩ (Zw q) q q (λky r' new hS=>?_)
 obtain⟨rfl,rfl⟩:=hS
 refine⟨(([.n f]:lV)++(bg 32 (λj=> .d (aO R42 c.1 j))++([.mp 1, .mp 2]:lV):lV)),[mP c.2.1,mW c.2.2],_,_,_,q,q,q,q,(.mp (λ_=>q) (.mp (λ_=>q) .nil)),q,(ay (cv _ kP dP _) (ay (cv _ kW dW _) q)),q,q,(cR (d4 _ kP dP _) (cR (d4 _ kW dW _) q)),?_⟩
 exact Zd q q q
 refine Rxc 1 q ?_
 replace h:=aB h
 obtain⟨bb,c0,h⟩:=h
 refine cT (λenv' st'=>∃(changed197:Bool),∃(g:List (List aa)),∃(B:List Nat),bb changed197 g=some r∧Sub [(0, .pt 0 0),(1, .d (D.b w)),(5, .d (D.b changed197)),(6, .n f),(18, .n (List.length fc:Int)),(19, .n f)] env'∧SLe st' [.row 68 ((tR t (.l E42 rg) (.os 1 vc) (.os 2 vo) (.n f))++(bg 32 (λj=> .d (aO R42 c.1 j))++([.mp 4, .mp 5]:lV):lV)), .os 45 33 vc (eM R45 x), .os 50 1 vo (aX 3 vf (List.length g)), .fam 42 2 vf (bf R42 g),mP c.2.1,mW c.2.2, .row 59 [.d (D.i .u8 e.op), .n e.d, .n e.a, .n e.b, .n e.n, .n e.m, .n e.to], .it (.mp 4) (List.length c.2.1) B (List.length c.2.1)]) ?_ ?_
 refine Rcl 6 q (WL.s (o7 kP aP c.2.1 underlying65 q q) (Zw q) q q (Rlc 3 q ?_))
 replace h:=lR h
 refine cL (λn env' st'=>∃(changed204:Bool),∃(I:List (List aa)),∃(V:List Nat),AllN c.2.1 V (f26_m2 rg w) (λ(b5:Bool×(List (List aa)))=>(bb b5.1 b5.2)) (changed204,I) r n∧Sub [(0, .pt 0 0),(1, .d (D.b w)),(5, .d (D.b changed204)),(6, .n f),(18, .n (List.length fc:Int)),(19, .n f),(74, .pt 7 0)] env'∧SLe st' [.row 68 ((tR t (.l E42 rg) (.os 1 vc) (.os 2 vo) (.n f))++(bg 32 (λj=> .d (aO R42 c.1 j))++([.mp 4, .mp 5]:lV):lV)), .os 45 33 vc (eM R45 x), .os 50 1 vo (aX 3 vf (List.length I)), .fam 42 2 vf (bf R42 I),mP c.2.1,mW c.2.2, .row 59 [.d (D.i .u8 e.op), .n e.d, .n e.a, .n e.b, .n e.n, .n e.m, .n e.to], .it (.mp 4) (List.length c.2.1) V (List.length c.2.1)]) (λn=>n) (List.length c.2.1) ⟨changed170,y,_,h,(Sx q (Sx q (Sx q (Sx q (Sx q (Sx q (Sx q (Sub.nil _)))))))),⟨Zp,Zf,Zf,Zf,q,q,Zp,Zf,Zt⟩⟩ ?_
 rintro n b6 b7 ⟨changed204,I,V,h,hsub,hst⟩
 refine WC.sub hsub (WC.weak hst ?_)
 refine Rcl 2 q (pi kP aP c.2.1 q q q q q (Zw q) q q (λc1=>?_) λb8 C b9 c2=>?_)
 replace h:((bb changed204 I))=some r:=(by have h9:=mR h c1;exact h9)
 exact Rl 1 q (Zn (Rcc 1 q (bz q (Rcx 4 q (En3 h)))))
 obtain⟨a1,dS,rfl,h,hI⟩:=AllN.pick h b9 c2
 rw[f26_m2] at h
 refine Rl 1 q (Zn (Rcc 1 q (cO q (Rcl 5 q (Zq (nT kP aP c.2.1 q q q q b9) q (Rl 2 q (Al vH q (Al z42 q (sS Z6 s123 Z2 (sS Z6 s42 Z2 (Rlc 2 q ?_)))))))))))
 obtain⟨b',G,h⟩:=ae h
 obtain⟨ca,cb,h⟩:=ae h
 obtain⟨d0,a6,h⟩:=ae h
 obtain⟨K,cc,h⟩:=ae h
 rcases cy K.1 with X|X
 replace h:=cG h X
 apply RT [_,_,_,_,_,_,_,_,_,_,_,_,_,_,_,_,_,_,_,_,_,_,_,_,_,_] [21] [[.row 68 ((tR t (.l E42 rg) (.os 1 vc) (.os 2 vo) (.n f))++(bg 32 (λj=> .d (aO R42 c.1 j))++([.mp 4, .mp 5]:lV):lV)), .os 45 33 vc (eM R45 x), .os 50 1 vo (aX 3 vf (List.length K.2)), .fam 42 2 vf (bf R42 K.2),mP c.2.1,mW c.2.2, .row 59 [.d (D.i .u8 e.op), .n e.d, .n e.a, .n e.b, .n e.n, .n e.m, .n e.to], .it (.mp 4) (List.length c.2.1) (V++ [b8]) (List.length c.2.1), .row 123 [.n C.1.1, .n C.1.2], .row 42 [.n C.2.lo, .n C.2.hi]]] [p01 0,p10 0,p10 1,p10 2,p01 8,p10 4,p20 3 5,p10 6,p01 8,p10 8,p20 7 9,p01 9,p01 0,p10 12,p10 13,p10 14,p01 8,p10 16,p20 15 17,p10 18,p01 1,([10,11,19,20],[],[0]),q10 21 1,q10 22 1,q20 22 23 1,q10 24 1] kR kR q q
 refine Y6 ?_
 refine zo (λ_=>Zq (eT e37 q q q (af G) (eF G)) q (Zd q q q)) ?_
 refine zo (λ_=>Zq (iJ (i:=C.1.1) q q a50 (cZ G)) q (Zd q q q)) ?_
 refine Y2 ?_
 refine zo (λ_=>Zq (jD (E:=R42) (L:=I) (M:=b') (v:=ca) e50 q q (aU G) q cb) q (Zd q q q)) ?_
 refine Y7 ?_
 refine zo (λ_=>Zq (ah e50 q Zl q (af a6) (an bL a6) q) q (Zd q q q)) ?_
 refine Y2 ?_
 refine zo (λ_=>?_) ?_
 refine aN [2,3] q q q q (f60m_c cc) ⟨Zl,(ak (Zs _)),Zl,Zl,Zt⟩ q dC (Rg (Rf q)) ⟨q,q,Zt⟩ Kv q (Zw q) q q (λr' new hS=>?_)
 obtain⟨rfl,rfl⟩:=hS
 refine⟨_,_,q,(Rg (Rf q)),q,Kv,?_⟩
 exact Zd q q q
 refine zo (rc X) ?_
 exact Y3 Zt
 refine Rxx 1 q (WE.drop 8 (env':=[(0, .pt 0 0),(1, .d (D.b w)),(5, .d (D.b true)),(6, .n f),(18, .n (List.length fc:Int)),(19, .n f),(74, .pt 7 0)]) Sb q (ay q (Lo (Lg q (Lf (ay (cv _ kP dP _) (ay (cv _ kW dW _) Kv)))))) (Nat.le_trans (Nat.le_of_eq hmm) (nbT q)) ?_)
 obtain rfl:=Oi h
 exact de ⟨a1,⟨true,K.2,_,hI,(Sx q (Sx q (Sx q (Sx q (Sx q (Sx q (Sx q (Sub.nil _)))))))),⟨Zp,Zf,Zf,Zf,q,q,Zp,Zf,Zt⟩⟩,Nat.lt_succ_self a1⟩
 replace h:=cH h X
 apply RT [_,_,_,_,_,_,_,_,_,_,_,_,_,_,_,_,_,_,_,_,_,_,_,_,_,_] [21] [[.row 68 ((tR t (.l E42 rg) (.os 1 vc) (.os 2 vo) (.n f))++(bg 32 (λj=> .d (aO R42 c.1 j))++([.mp 4, .mp 5]:lV):lV)), .os 45 33 vc (eM R45 x), .os 50 1 vo (aX 3 vf (List.length K.2)), .fam 42 2 vf (bf R42 K.2),mP c.2.1,mW c.2.2, .row 59 [.d (D.i .u8 e.op), .n e.d, .n e.a, .n e.b, .n e.n, .n e.m, .n e.to], .it (.mp 4) (List.length c.2.1) (V++ [b8]) (List.length c.2.1), .row 123 [.n C.1.1, .n C.1.2], .row 42 [.n C.2.lo, .n C.2.hi]]] [p01 0,p10 0,p10 1,p10 2,p01 8,p10 4,p20 3 5,p10 6,p01 8,p10 8,p20 7 9,p01 9,p01 0,p10 12,p10 13,p10 14,p01 8,p10 16,p20 15 17,p10 18,p01 1,([10,11,19,20],[],[0]),q10 21 1,q11 22 5 1,q20 22 23 1,q10 24 1] kR kR q q
 refine Y6 ?_
 refine zo (λ_=>Zq (eT e37 q q q (af G) (eF G)) q (Zd q q q)) ?_
 refine zo (λ_=>Zq (iJ (i:=C.1.1) q q a50 (cZ G)) q (Zd q q q)) ?_
 refine Y2 ?_
 refine zo (λ_=>Zq (jD (E:=R42) (L:=I) (M:=b') (v:=ca) e50 q q (aU G) q cb) q (Zd q q q)) ?_
 refine Y7 ?_
 refine zo (λ_=>Zq (ah e50 q Zl q (af a6) (an bL a6) q) q (Zd q q q)) ?_
 refine Y2 ?_
 refine zo (λ_=>?_) ?_
 refine aN [2,3] q q q q (f60m_c cc) ⟨Zl,(ak (Zs _)),Zl,Zl,Zt⟩ q dC (Rg (Rf q)) ⟨q,q,Zt⟩ Kv q (Zw q) q q (λr' new hS=>?_)
 obtain⟨rfl,rfl⟩:=hS
 refine⟨_,_,q,(Rg (Rf q)),q,Kv,?_⟩
 exact Zd q q q
 refine zo (rc X) ?_
 exact Y3 Zt
 refine Rxx 1 q (WE.drop 8 (env':=[(0, .pt 0 0),(1, .d (D.b w)),(5, .d (D.b changed204)),(6, .n f),(18, .n (List.length fc:Int)),(19, .n f),(74, .pt 7 0)]) Sb q (ay q (Lo (Lg q (Lf (ay (cv _ kP dP _) (ay (cv _ kW dW _) Kv)))))) (Nat.le_trans (Nat.le_of_eq hmm) (nbT q)) ?_)
 obtain rfl:=Oi h
 exact de ⟨a1,⟨changed204,K.2,_,hI,(Sx q (Sx q (Sx q (Sx q (Sx q (Sx q (Sx q (Sub.nil _)))))))),⟨Zp,Zf,Zf,Zf,q,q,Zp,Zf,Zt⟩⟩,Nat.lt_succ_self a1⟩
 rintro b6 b7 ⟨changed197,g,B,h,hsub,hst⟩
 subst c0
 dsimp only at h
 refine WC.sub hsub (WC.weak hst ?_)
 refine Rcl 6 q (WL.s (o7 kW aW c.2.2 underlying66 q q) (Zw q) q q (Rlc 3 q ?_))
 replace h:=lR h
 refine cL (λn env' st'=>∃(changed226:Bool),∃(P:List aj),∃(F:List Nat),AllN c.2.2 F (f26_m3 w f) (λ(cd:Bool×(List aj))=>(b2 cd.1 cd.2 g f c.1)) (changed226,P) r n∧Sub [(0, .pt 0 0),(1, .d (D.b w)),(5, .d (D.b changed226)),(6, .n f),(18, .n (List.length fc:Int)),(19, .n f),(109, .pt 8 0)] env'∧SLe st' [.row 68 ((tR t (.l E42 rg) (.os 1 vc) (.os 2 vo) (.n f))++(bg 32 (λj=> .d (aO R42 c.1 j))++([.mp 4, .mp 5]:lV):lV)), .os 45 33 vc (eM R45 P), .os 50 1 vo (aX 3 vf (List.length g)), .fam 42 2 vf (bf R42 g),mP c.2.1,mW c.2.2, .row 59 [.d (D.i .u8 e.op), .n e.d, .n e.a, .n e.b, .n e.n, .n e.m, .n e.to], .it (.mp 4) (List.length c.2.1) B (List.length c.2.1), .it (.mp 5) (List.length c.2.2) F (List.length c.2.2)]) (λn=>n) (List.length c.2.2) ⟨changed197,x,_,h,(Sx q (Sx q (Sx q (Sx q (Sx q (Sx q (Sx q (Sub.nil _)))))))),⟨Zp,Zf,Zf,Zf,q,q,Zp,Zf,Zf,Zt⟩⟩ ?_
 rintro n b6 b7 ⟨changed226,P,F,h,hsub,hst⟩
 refine WC.sub hsub (WC.weak hst ?_)
 refine Rcl 2 q (pi kW aW c.2.2 q q q q q (Zw q) q q (λc'=>?_) λQ p cf dd=>?_)
 replace h:((b2 changed226 P g f c.1))=some r:=(by have h9:=mR h c';exact h9)
 refine Rl 1 q (Zn (Rcc 1 q (bz q (Rcx 5 q ?_))))
 refine WE.weak (st':=[.row 68 ((tR t (.l E42 rg) (.os 1 vc) (.os 2 vo) (.n f))++(bg 32 (λj=> .d (aO R42 c.1 j))++([.u, .u]:lV):lV)), .os 45 33 vc (eM R45 P), .os 50 1 vo (aX 3 vf (List.length g)), .fam 42 2 vf (bf R42 g),mP c.2.1,mW c.2.2, .row 59 [.d (D.i .u8 e.op), .n e.d, .n e.a, .n e.b, .n e.n, .n e.m, .n e.to], .it (.mp 4) (List.length c.2.1) B (List.length c.2.1), .it (.mp 5) (List.length c.2.2) F (List.length c.2.2)]) (by exact⟨⟨q,(Les.app Lw (Les.app (Zs _) ⟨(Le.u _),(Le.u _),Zt⟩))⟩,OLe.refl _,OLe.refl _,OLe.refl _,OLe.refl _,OLe.refl _,OLe.refl _,OLe.refl _,OLe.refl _,Zt⟩) ?_
 exact WE.drop 4 (env':=[(0, .pt 0 0),(1, .d (D.b w)),(5, .d (D.b changed226)),(18, .n (List.length fc:Int)),(19, .n f)]) Sb q Kv (Nat.le_trans (Nat.le_of_eq hmm) (nbT q)) (En5 h)
 obtain⟨a7,d1,rfl,h,hI⟩:=AllN.pick h cf dd
 rw[f26_m3] at h
 refine Rl 1 q (Zn (Rcc 1 q (cO q (Rcl 5 q (Zq (nT kW aW c.2.2 q q q q cf) q (Rl 2 q (Al z43 q (Rl 1 q (sS Z6 s43 Z2 (St q (Rll 9 q ?_)))))))))))
 obtain⟨d2,bd,h⟩:=ae h
 refine Zq (lU e36 q q q bd) q (Rll 7 q (Zq (bY q q) q (Zq (cu f45_0 q q) q (Zq (iI (fo:=0) q q q a4 (λ_=>q) bd q) q (Rlc 3 q (Ci h q (λh=>?_) λh=>?_))))))
 refine Rcl 3 q (Zq (cN (off:=0) (N:=32) (aO R42 p.2) q q a43 s43 q q) q (Zq (ac p45 z45 q q) q (Zq (bY q q) q (WL.s0 (dp (r:= .d (.ag (R45 (aj.mk true p.2)))) (R:=R45) (k:=33) (i:=p.1) (fo:=0) (aj.mk true p.2) q q q q (ak (Zs _)) q q q s45 q (λ_=>q) bd q q) (Zw q) q (St q (Rlx 6 q (WE.drop 9 (env':=[(0, .pt 0 0),(1, .d (D.b w)),(5, .d (D.b true)),(6, .n f),(18, .n (List.length fc:Int)),(19, .n f),(109, .pt 8 0)]) Sb q (ay q (Lo (Lg q (Lf (ay (cv _ kP dP _) (ay (cv _ kW dW _) Kv)))))) (Nat.le_trans (Nat.le_of_eq hmm) (nbT q)) ?_)))))))
 obtain rfl:=Oi h
 exact de ⟨a7,⟨true,(List.set P (Int.toNat p.1) (aj.mk true p.2)),_,hI,(Sx q (Sx q (Sx q (Sx q (Sx q (Sx q (Sx q (Sub.nil _)))))))),⟨Zp,Zf,Zf,Zf,q,q,Zp,Zf,Zf,Zt⟩⟩,Nat.lt_succ_self a7⟩
 refine Rcc 8 q ?_
 refine Ln3 (λchanged243 bk _=> [(0, .pt 0 0),(1, .d (D.b w)),(5, .d (D.b changed243)),(6, .n f),(10, .n p.1),(11, .pt 9 0),(12, .pe 1 vc (Int.toNat p.1*33)),(18, .n (List.length fc:Int)),(19, .n f),(109, .pt 8 0),(130, .n bk)]) (λ_ _ bl=> [.row 68 ((tR t (.l E42 rg) (.os 1 vc) (.os 2 vo) (.n f))++(bg 32 (λj=> .d (aO R42 c.1 j))++([.mp 4, .mp 5]:lV):lV)), .os 45 33 vc (eM R45 bl), .os 50 1 vo (aX 3 vf (List.length g)), .fam 42 2 vf (bf R42 g),mP c.2.1,mW c.2.2, .row 59 [.d (D.i .u8 e.op), .n e.d, .n e.a, .n e.b, .n e.n, .n e.m, .n e.to], .it (.mp 4) (List.length c.2.1) B (List.length c.2.1), .it (.mp 5) (List.length c.2.2) (F++ [Q]) (List.length c.2.2), .row 43 (bg 32 (λj=> .d (aO R42 p.2 j)))]) (f26_l4 w f p) h (λ_ _ _ h=>by rw[f26_l4] at h;cases h) (λna changed243 bk bl h=>?_)
 rw[f26_l4] at h
 refine Rcc 6 q (Ci h q (λh=>?_) λh=>?_)
 refine Rcc 2 q ?_
 refine Jn2 (λchanged249 _=> [(0, .pt 0 0),(1, .d (D.b w)),(5, .d (D.b changed249)),(6, .n f),(10, .n p.1),(11, .pt 9 0),(12, .pe 1 vc (Int.toNat p.1*33)),(18, .n (List.length fc:Int)),(19, .n f),(109, .pt 8 0),(130, .n bk)]) (λ_ ci=> [.row 68 ((tR t (.l E42 rg) (.os 1 vc) (.os 2 vo) (.n f))++(bg 32 (λj=> .d (aO R42 c.1 j))++([.mp 4, .mp 5]:lV):lV)), .os 45 33 vc (eM R45 ci), .os 50 1 vo (aX 3 vf (List.length g)), .fam 42 2 vf (bf R42 g),mP c.2.1,mW c.2.2, .row 59 [.d (D.i .u8 e.op), .n e.d, .n e.a, .n e.b, .n e.n, .n e.m, .n e.to], .it (.mp 4) (List.length c.2.1) B (List.length c.2.1), .it (.mp 5) (List.length c.2.2) (F++ [Q]) (List.length c.2.2), .row 43 (bg 32 (λj=> .d (aO R42 p.2 j)))]) h (λ_ h=>?_) (λchanged249 ci h=>?_)
 refine Rcc 7 q ?_
 replace h:=aD h
 obtain⟨H,h⟩:=h
 replace h:=aD h
 obtain⟨A,h⟩:=h
 rcases cy w with O|O
 replace h:=cG h O
 obtain⟨bs,cj,h⟩:=ae h
 rcases cy bs.1 with Y|Y
 replace h:=cG h Y
 apply RT [_,_,_,_,_,_,_,_,_,_,_,_,_,_,_,_,_,_,_,_] [15] [[.row 68 ((tR t (.l E42 rg) (.os 1 vc) (.os 2 vo) (.n f))++(bg 32 (λj=> .d (aO R42 c.1 j))++([.mp 4, .mp 5]:lV):lV)), .os 45 33 vc (eM R45 bs.2), .os 50 1 vo (aX 3 vf (List.length g)), .fam 42 2 vf (bf R42 g),mP c.2.1,mW c.2.2, .row 59 [.d (D.i .u8 e.op), .n e.d, .n e.a, .n e.b, .n e.n, .n e.m, .n e.to], .it (.mp 4) (List.length c.2.1) B (List.length c.2.1), .it (.mp 5) (List.length c.2.2) (F++ [Q]) (List.length c.2.2), .row 43 (bg 32 (λj=> .d (aO R42 p.2 j)))]] [p01 12,p01 13,p10 0,p10 2,p20 3 1,p01 13,p11 5 11,p10 6,p00,p01 1,p10 9,p11 10 10,p11 10 6,p30 11 12 10,p20 10 13,([4,7,8,14],[],[0]),q10 15 1,q10 16 1,q20 16 17 1,q10 18 1] kR kR q q
 refine Y2 ?_
 refine zo (λ_=>Zq (bY q q) q (Zd q q q)) ?_
 refine zo (λ_=>Zq (cu f45_1 q q) q (Zd q q q)) ?_
 refine zo (λ_=>Zq (dB cw q q q (aT H) (aS H)) q (Zd q q q)) ?_
 refine Y1 ?_
 refine zo (λ_=>Zq (ar cw q q (aT A) (aS A)) q (Zd q q q)) ?_
 refine zo (λ_=>Zq (bw (off:=0) (N:=32) (n:=16) R42 p.2 (λ_=>q) q q q a42 s42 q q A) q (Zd q q q)) ?_
 refine zo (λ_=>wF Z4 (f56_c) Lw Z3 (Zd q q q)) ?_
 refine Y1 ?_
 refine zo (rc O) ?_
 refine Y4 ?_
 refine zo (λ_=>?_) ?_
 refine aN [1] q q q q (f60e_c cj) Lw q dC (Ro q) ⟨q,Zt⟩ Kv q (Zw q) q q (λr' new hS=>?_)
 obtain⟨rfl,rfl⟩:=hS
 refine⟨_,_,q,(Ro q),q,Kv,?_⟩
 exact Zd q q q
 refine zo (rc Y) ?_
 exact Y3 Zt
 exact Rxx 1 q (En2 h)
 replace h:=cH h Y
 apply RT [_,_,_,_,_,_,_,_,_,_,_,_,_,_,_,_,_,_,_,_] [15] [[.row 68 ((tR t (.l E42 rg) (.os 1 vc) (.os 2 vo) (.n f))++(bg 32 (λj=> .d (aO R42 c.1 j))++([.mp 4, .mp 5]:lV):lV)), .os 45 33 vc (eM R45 bs.2), .os 50 1 vo (aX 3 vf (List.length g)), .fam 42 2 vf (bf R42 g),mP c.2.1,mW c.2.2, .row 59 [.d (D.i .u8 e.op), .n e.d, .n e.a, .n e.b, .n e.n, .n e.m, .n e.to], .it (.mp 4) (List.length c.2.1) B (List.length c.2.1), .it (.mp 5) (List.length c.2.2) (F++ [Q]) (List.length c.2.2), .row 43 (bg 32 (λj=> .d (aO R42 p.2 j)))]] [p01 12,p01 13,p10 0,p10 2,p20 3 1,p01 13,p11 5 11,p10 6,p00,p01 1,p10 9,p11 10 10,p11 10 6,p30 11 12 10,p20 10 13,([4,7,8,14],[],[0]),q10 15 1,q11 16 5 1,q20 16 17 1,q10 18 1] kR kR q q
 refine Y2 ?_
 refine zo (λ_=>Zq (bY q q) q (Zd q q q)) ?_
 refine zo (λ_=>Zq (cu f45_1 q q) q (Zd q q q)) ?_
 refine zo (λ_=>Zq (dB cw q q q (aT H) (aS H)) q (Zd q q q)) ?_
 refine Y1 ?_
 refine zo (λ_=>Zq (ar cw q q (aT A) (aS A)) q (Zd q q q)) ?_
 refine zo (λ_=>Zq (bw (off:=0) (N:=32) (n:=16) R42 p.2 (λ_=>q) q q q a42 s42 q q A) q (Zd q q q)) ?_
 refine zo (λ_=>wF Z4 (f56_c) Lw Z3 (Zd q q q)) ?_
 refine Y1 ?_
 refine zo (rc O) ?_
 refine Y4 ?_
 refine zo (λ_=>?_) ?_
 refine aN [1] q q q q (f60e_c cj) Lw q dC (Ro q) ⟨q,Zt⟩ Kv q (Zw q) q q (λr' new hS=>?_)
 obtain⟨rfl,rfl⟩:=hS
 refine⟨_,_,q,(Ro q),q,Kv,?_⟩
 exact Zd q q q
 refine zo (rc Y) ?_
 exact Y3 Zt
 exact Rxx 1 q (En2 h)
 replace h:=cH h O
 obtain⟨b0,cl,h⟩:=ae h
 rcases cy b0.1 with Z|Z
 replace h:=cG h Z
 apply RT [_,_,_,_,_,_,_,_,_,_,_,_,_,_,_,_,_,_,_,_] [15] [[.row 68 ((tR t (.l E42 rg) (.os 1 vc) (.os 2 vo) (.n f))++(bg 32 (λj=> .d (aO R42 c.1 j))++([.mp 4, .mp 5]:lV):lV)), .os 45 33 vc (eM R45 b0.2), .os 50 1 vo (aX 3 vf (List.length g)), .fam 42 2 vf (bf R42 g),mP c.2.1,mW c.2.2, .row 59 [.d (D.i .u8 e.op), .n e.d, .n e.a, .n e.b, .n e.n, .n e.m, .n e.to], .it (.mp 4) (List.length c.2.1) B (List.length c.2.1), .it (.mp 5) (List.length c.2.2) (F++ [Q]) (List.length c.2.2), .row 43 (bg 32 (λj=> .d (aO R42 p.2 j)))]] [p01 12,p01 13,p10 0,p10 2,p20 3 1,p01 13,p11 5 11,p10 6,p00,p01 1,p10 9,p10 10,p10 10,p10 10,p20 10 13,([4,7,8,14],[],[0]),q10 15 1,q10 16 1,q20 16 17 1,q10 18 1] kR kR q q
 refine Y2 ?_
 refine zo (λ_=>Zq (bY q q) q (Zd q q q)) ?_
 refine zo (λ_=>Zq (cu f45_1 q q) q (Zd q q q)) ?_
 refine zo (λ_=>Zq (dB cw q q q (aT H) (aS H)) q (Zd q q q)) ?_
 refine Y1 ?_
 refine zo (λ_=>Zq (ar cw q q (aT A) (aS A)) q (Zd q q q)) ?_
 refine zo (λ_=>Zq (bw (off:=0) (N:=32) (n:=16) R42 p.2 (λ_=>q) q q q a42 s42 q q A) q (Zd q q q)) ?_
 refine zo (λ_=>wF Z4 (f56_c) Lw Z3 (Zd q q q)) ?_
 refine Y1 ?_
 refine zo (rc O) ?_
 refine Y4 ?_
 refine zo (λ_=>?_) ?_
 refine aN [1] q q q q (f60e_c cl) Lw q dC (Ro q) ⟨q,Zt⟩ Kv q (Zw q) q q (λr' new hS=>?_)
 obtain⟨rfl,rfl⟩:=hS
 refine⟨_,_,q,(Ro q),q,Kv,?_⟩
 exact Zd q q q
 refine zo (rc Z) ?_
 exact Y3 Zt
 exact Rxx 1 q (En2 h)
 replace h:=cH h Z
 apply RT [_,_,_,_,_,_,_,_,_,_,_,_,_,_,_,_,_,_,_,_] [15] [[.row 68 ((tR t (.l E42 rg) (.os 1 vc) (.os 2 vo) (.n f))++(bg 32 (λj=> .d (aO R42 c.1 j))++([.mp 4, .mp 5]:lV):lV)), .os 45 33 vc (eM R45 b0.2), .os 50 1 vo (aX 3 vf (List.length g)), .fam 42 2 vf (bf R42 g),mP c.2.1,mW c.2.2, .row 59 [.d (D.i .u8 e.op), .n e.d, .n e.a, .n e.b, .n e.n, .n e.m, .n e.to], .it (.mp 4) (List.length c.2.1) B (List.length c.2.1), .it (.mp 5) (List.length c.2.2) (F++ [Q]) (List.length c.2.2), .row 43 (bg 32 (λj=> .d (aO R42 p.2 j)))]] [p01 12,p01 13,p10 0,p10 2,p20 3 1,p01 13,p11 5 11,p10 6,p00,p01 1,p10 9,p10 10,p10 10,p10 10,p20 10 13,([4,7,8,14],[],[0]),q10 15 1,q11 16 5 1,q20 16 17 1,q10 18 1] kR kR q q
 refine Y2 ?_
 refine zo (λ_=>Zq (bY q q) q (Zd q q q)) ?_
 refine zo (λ_=>Zq (cu f45_1 q q) q (Zd q q q)) ?_
 refine zo (λ_=>Zq (dB cw q q q (aT H) (aS H)) q (Zd q q q)) ?_
 refine Y1 ?_
 refine zo (λ_=>Zq (ar cw q q (aT A) (aS A)) q (Zd q q q)) ?_
 refine zo (λ_=>Zq (bw (off:=0) (N:=32) (n:=16) R42 p.2 (λ_=>q) q q q a42 s42 q q A) q (Zd q q q)) ?_
 refine zo (λ_=>wF Z4 (f56_c) Lw Z3 (Zd q q q)) ?_
 refine Y1 ?_
 refine zo (rc O) ?_
 refine Y4 ?_
 refine zo (λ_=>?_) ?_
 refine aN [1] q q q q (f60e_c cl) Lw q dC (Ro q) ⟨q,Zt⟩ Kv q (Zw q) q q (λr' new hS=>?_)
 obtain⟨rfl,rfl⟩:=hS
 refine⟨_,_,q,(Ro q),q,Kv,?_⟩
 exact Zd q q q
 refine zo (rc Z) ?_
 exact Y3 Zt
 exact Rxx 1 q (En2 h)
 exact Rcx 4 q (Fn3 h)
 refine Rcx 5 q (WE.drop 9 (env':=[(0, .pt 0 0),(1, .d (D.b w)),(5, .d (D.b changed243)),(6, .n f),(18, .n (List.length fc:Int)),(19, .n f),(109, .pt 8 0)]) Sb q (ay q (Lo (Lg q (Lf (ay (cv _ kP dP _) (ay (cv _ kW dW _) Kv)))))) (Nat.le_trans (Nat.le_of_eq hmm) (nbT q)) ?_)
 obtain rfl:=Oi h
 exact de ⟨a7,⟨changed243,bl,_,hI,(Sx q (Sx q (Sx q (Sx q (Sx q (Sx q (Sx q (Sub.nil _)))))))),⟨Zp,Zf,Zf,Zf,q,q,Zp,Zf,Zf,Zt⟩⟩,Nat.lt_succ_self a7⟩
 exact Rcx 4 q (Fn6 h)
 exact Rcx 4 q (En5 h)
 refine Rcx 7 q ?_
 obtain rfl:=Oi h
 exact aw (new:=[.row 68 ((tR t (.l E42 rg) (.os 1 vc) (.os 2 vo) (.n c014v161))++(bg 32 (λj=> .d (aO R42 c015v162 j))++([.u, .u]:lV):lV)), .os 45 33 vc (eM R45 a8), .os 50 1 vo (aX 3 vf (List.length S)), .fam 42 2 vf (bf R42 S)]) (r0:= .d (.b changed158)) (rs1 q (aR q)) Zl q ⟨⟨q,(Les.app Lw (Les.app (Zs _) ⟨(Le.u _),(Le.u _),Zt⟩))⟩,Zf,Zf,Zf,Zt⟩ ⟨q,q⟩

end Go.Proofs.YtkbpoeellidgeaaGreatDoor
