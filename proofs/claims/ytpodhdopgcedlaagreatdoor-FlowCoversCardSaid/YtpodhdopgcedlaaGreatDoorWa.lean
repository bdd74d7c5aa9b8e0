/- The walks of functions. -/
import Derived.Test.YtpodhdopgcedlaaGreatDoorX
set_option linter.unusedVariables false
set_option linter.unusedSimpArgs false
set_option linter.unusedSectionVars false
set_option linter.unnecessarySimpa false
set_option maxHeartbeats 4000000
set_option maxRecDepth 100000
namespace Go.Proofs.YtpodhdopgcedlaaGreatDoor
open Go.Proofs.Tryz
open Go Go.Sk

theorem f131_c{x0:Int}{y1:Int}:Pu prog 131 [.i .u64 x0, .i .u64 y1] (.tu [.i .u64 (f131 x0 y1).1, .i .u64 (f131 x0 y1).2]):=by
 generalize h:f131 x0 y1=r
 unfold f131 at h
 refine fI func131 λ_ _=>?_
 exact Rcl 9 q (Zq (o3 q q q) q (Rll 6 q (Zq (mZ q q dC) q (Rll 6 q (Zq (o3 q q q) q (Rll 6 q (Zq (mZ q q dC) q (Rll 17 q (Zq (mZ q q dC) q (Rll 7 q (Zq (o3 q q q) q (Rll 6 q (Zq (mZ q q dC) q (Rll 21 q (Zq (mZ q q dC) q (Rlx 13 q (FB h)))))))))))))))))

theorem f82_c{x0:Int}{y1:Int}:Pu prog 82 [.i .u64 x0, .i .u64 y1] (.tu [.i .u64 (f82 x0 y1).1, .i .u64 (f82 x0 y1).2]):=by
 generalize h:f82 x0 y1=r
 unfold f82 at h
 refine fI func82 λ_ _=>?_
 exact Rcc 7 q (cU q (Rcl 6 q (wF Z4 (f131_c) Lw Z3 (Rlx 16 q (FB h)))))

theorem f81s_c(p:(List al)→(List Bool)→lI→lI→Int→Option ((List al)×(List Bool)×lI×lI))(bb:List al)(seen:List Bool)(l:lI)(pl:lI)(n0:Int)(N:∀{vers:Nat}{verl:Nat}{verp:Nat}(bb:List al)(seen:List Bool)(l:lI)(pl:lI)(x0:Int)(r:(List al)×(List Bool)×lI×lI),p bb seen l pl x0=some r→Ctr prog 81 [.n x0, .pt 0 0, .pt 1 0, .pt 2 0, .pt 3 0, .pt 4 0] [.row 57 [.os 5 vers], .row 36 [.l E55 bb], .row 113 [.fn (.func 81) [] [.pt 0 0, .pt 1 0, .pt 2 0, .pt 3 0, .pt 4 0]], .row 43 [.os 6 verl], .row 43 [.os 7 verp], .os 4 1 vers (eM E4 seen), .os 3 1 verl (eM E3 l), .os 3 1 verp (eM E3 pl)] (gy 8 (.tu []) (λiv=> [.row 57 [.os 5 iv], .row 36 [.l E55 r.1], .row 113 [.fn (.func 81) [] [.pt 0 0, .pt 1 0, .pt 2 0, .pt 3 0, .pt 4 0]], .row 43 [.os 6 iv], .row 43 [.os 7 iv], .os 4 1 iv (eM E4 r.2.1), .os 3 1 iv (eM E3 r.2.2.1), .os 3 1 iv (eM E3 r.2.2.2)]))){vers:Nat}{verl:Nat}{verp:Nat}{r:(List al)×(List Bool)×lI×lI}(h:f81s p bb seen l pl n0=some r):Ctr prog 81 [.n n0, .pt 0 0, .pt 1 0, .pt 2 0, .pt 3 0, .pt 4 0] [.row 57 [.os 5 vers], .row 36 [.l E55 bb], .row 113 [.fn (.func 81) [] [.pt 0 0, .pt 1 0, .pt 2 0, .pt 3 0, .pt 4 0]], .row 43 [.os 6 verl], .row 43 [.os 7 verp], .os 4 1 vers (eM E4 seen), .os 3 1 verl (eM E3 l), .os 3 1 verp (eM E3 pl)] (gy 8 (.tu []) (λiv=> [.row 57 [.os 5 iv], .row 36 [.l E55 r.1], .row 113 [.fn (.func 81) [] [.pt 0 0, .pt 1 0, .pt 2 0, .pt 3 0, .pt 4 0]], .row 43 [.os 6 iv], .row 43 [.os 7 iv], .os 4 1 iv (eM E4 r.2.1), .os 3 1 iv (eM E3 r.2.2.1), .os 3 1 iv (eM E3 r.2.2.2)])):=by
 unfold f81s at h
 refine cI func81 λ_ _ _ hmm=>?_
 refine Rcl 4 q ?_
 obtain⟨U,J,h⟩:=ae h
 refine Zq (fk e57 q q q J) q (WL.s0 (cE (R:=E4) (k:=1) (i:=n0) (fo:=0) true q q q q Zl q q q s4 q (λ_=>q) J q q) (Zw q) q (Rlc 2 q ?_))
 replace h:=ay h
 obtain⟨K,O,h⟩:=h
 refine bf (λenv' st'=>∃(g:List Bool),∃(a:Nat),∃(e:lI),∃(c:Nat),∃(j:lI),∃(d:Nat),∃(c10v49:List al),K g e j c10v49=some r∧Sub [(0, .n n0),(4, .pt 3 0),(5, .pt 4 0)] env'∧SLe st' [.row 57 [.os 5 a], .row 36 [.l E55 c10v49], .row 113 [.fn (.func 81) [] [.pt 0 0, .pt 1 0, .pt 2 0, .pt 3 0, .pt 4 0]], .row 43 [.os 6 c], .row 43 [.os 7 d], .os 4 1 a (eM E4 g), .os 3 1 c (eM E3 e), .os 3 1 d (eM E3 j)]) ?_ ?_
 refine Rcl 4 q (Ix h e36 cJ q Zl q q λf _ h=>(Rl 2 q (Zq (ab E3 f.next e43 q q Zl) q (Rlc 4 q ?_))))
 refine bq (λn env' st'=>∃(m:Int),∃(t:List Bool),∃(w:Nat),∃(x:lI),∃(y:Nat),∃(A:lI),∃(B:Nat),∃(c10v67:List al),f81s_l1 p K f n m t x A c10v67=some r∧Sub [(0, .n n0),(1, .pt 0 0),(3, .pt 2 0),(4, .pt 3 0),(5, .pt 4 0),(16, .l E3 f.next),(17, .n (List.length f.next:Int)),(18, .n m)] env'∧SLe st' [.row 57 [.os 5 w], .row 36 [.l E55 c10v67], .row 113 [.fn (.func 81) [] [.pt 0 0, .pt 1 0, .pt 2 0, .pt 3 0, .pt 4 0]], .row 43 [.os 6 y], .row 43 [.os 7 B], .os 4 1 w (eM E4 t), .os 3 1 y (eM E3 x), .os 3 1 B (eM E3 A)]) (λn=>n) (Int.toNat ((List.length f.next:Int) - 0)+1) ⟨0,(List.set seen (Int.toNat n0) true),_,l,_,pl,_,bb,h,(Sx q (Sx q (Sx q (Sx q (Sx q (Sx q (Sx q (Sx q (Sub.nil _))))))))),⟨Zp,Zp,Zp,Zp,Zp,Zf,Zf,Zf,Zt⟩⟩ ?_
 rintro n env1 st1 ⟨m,t,w,x,y,A,B,c10v67,h,hsub,hst⟩
 rcases n with _|n
 rw[f81s_l1] at h;cases h
 rw[f81s_l1] at h
 refine WC.sub hsub (WC.weak hst ?_)
 refine Rcc 6 q (Ci h q (λh=>?_) λh=>?_)
 refine Rcc 2 q ?_
 replace h:=ay h
 obtain⟨P,Q,h⟩:=h
 refine bf (λenv' st'=>∃(C:List Bool),∃(E:Nat),∃(F:lI),∃(G:Nat),∃(H:lI),∃(I:Nat),∃(c10v82:List al),P C F H c10v82=some r∧Sub [(0, .n n0),(1, .pt 0 0),(3, .pt 2 0),(4, .pt 3 0),(5, .pt 4 0),(16, .l E3 f.next),(17, .n (List.length f.next:Int)),(18, .n m)] env'∧SLe st' [.row 57 [.os 5 E], .row 36 [.l E55 c10v82], .row 113 [.fn (.func 81) [] [.pt 0 0, .pt 1 0, .pt 2 0, .pt 3 0, .pt 4 0]], .row 43 [.os 6 G], .row 43 [.os 7 I], .os 4 1 E (eM E4 C), .os 3 1 G (eM E3 F), .os 3 1 I (eM E3 H)]) ?_ ?_
 refine Rcl 3 q (Ix h e43 aZ q Zl q q λV _ h=>(Rll 8 q ?_))
 obtain⟨W,L,h⟩:=ae h
 refine Zq (fk e57 q q q L) q (Zq (bx (fo:=0) q q q a4 (λ_=>q) L q) q (Rlc 3 q (Ci h q (λh=>?_) λh=>?_)))
 refine Rcl 3 q ?_
 obtain⟨X,S,h⟩:=ae h
 refine St q (dX [0,1,2,3,4,5,6,7] q q q q (N _ _ _ _ _ _ S) Lw q dC (Re (Re (Re (Re (Re (Ro (Ro (Ro q)))))))) ⟨q,q,q,q,q,q,q,q,Zt⟩ Kv q (λ_=>Kv) (λ_=>(Re (Re (Re (Re (Re (Ro (Ro (Ro q))))))))) (Zw q) q q λY=>?_)
 exact Rlx 2 q (cw ⟨_,_,_,_,_,_,_,h,Sb,Tv⟩)
 exact Rcx 2 q (cw ⟨_,_,_,_,_,_,_,h,Sb,Tv⟩)
 rintro env1 st1 ⟨C,E,F,G,H,I,c10v82,h,hsub,hst⟩
 subst Q
 dsimp only at h
 refine WC.sub hsub (WC.weak hst ?_)
 exact Rcx 4 q (cw ⟨_,⟨_,_,_,_,_,_,_,_,h,Sb,Tv⟩,Nat.lt_succ_self _⟩)
 exact Rcx 4 q (cw ⟨_,_,_,_,_,_,_,h,Sb,Tv⟩)
 rintro env1 st1 ⟨g,a,e,c,j,d,c10v49,h,hsub,hst⟩
 subst O
 dsimp only at h
 refine WC.sub hsub (WC.weak hst ?_)
 refine Rcl 5 q (Zq (bD (aY E3) e e43 q q q) q ?_)
 obtain⟨Z,M,h⟩:=ae h
 refine Zq (fk e43 q q q M) q (WL.s0 (cE (R:=E3) (k:=1) (i:=n0) (fo:=0) (List.length e:Int) q q q q Zl q q q s3 q (λ_=>q) M q q) (Zw q) q (Rll 5 q (WL.s ((NewOs.b (af l43 z3 q dC dC q q q dC)).does) (Zw q) q q ?_)))
 replace h:=aT h
 obtain⟨T,h⟩:=h
 refine WL.s (bj E3 e [n0] l43 z3 q dC q q q q (Src.own q) (λ_=>q) (λ_=>q) T) (Zw q) q q (WL.s0 (bV q q q (cS q) s43 q) (Zw q) q (Rlx 1 q (ce ?_)))
 obtain rfl:=Oi h
 exact j5 (ot 5 0 0 (a+(c+1)+d+1) q q q q oM) (j5 (ot 6 3 0 (a+(c+1)+d+1) q q q q oM) (j5 (ot 7 4 0 (a+(c+1)+d+1) q q q q oM) (Ax (st':=[.row 57 [.os 5 (a+(c+1)+d+1)], .row 36 [.l E55 c10v49], .row 113 [.fn (.func 81) [] [.pt 0 0, .pt 1 0, .pt 2 0, .pt 3 0, .pt 4 0]], .row 43 [.os 6 (a+(c+1)+d+1)], .row 43 [.os 7 (a+(c+1)+d+1)], .os 4 1 (a+(c+1)+d+1) (eM E4 g), .os 3 1 (a+(c+1)+d+1) (eM E3 (e++ [n0])), .os 3 1 (a+(c+1)+d+1) (eM E3 (List.set j (Int.toNat n0) (List.length e:Int))), .os 3 1 0 (eM E3 [n0])]) q (eD (a+(c+1)+d+1) (d3 q) (eP Zt) q ⟨Zp,Zp,Zp,Zp,Zp,Zf,Zf,Zf,Zt⟩))))

theorem f81_c:∀(n:Nat){vers:Nat}{verl:Nat}{verp:Nat}(bb:List al)(seen:List Bool)(l:lI)(pl:lI)(x0:Int){r:(List al)×(List Bool)×lI×lI},f81 n bb seen l pl x0=some r→Ctr prog 81 [.n x0, .pt 0 0, .pt 1 0, .pt 2 0, .pt 3 0, .pt 4 0] [.row 57 [.os 5 vers], .row 36 [.l E55 bb], .row 113 [.fn (.func 81) [] [.pt 0 0, .pt 1 0, .pt 2 0, .pt 3 0, .pt 4 0]], .row 43 [.os 6 verl], .row 43 [.os 7 verp], .os 4 1 vers (eM E4 seen), .os 3 1 verl (eM E3 l), .os 3 1 verp (eM E3 pl)] (gy 8 (.tu []) (λiv=> [.row 57 [.os 5 iv], .row 36 [.l E55 r.1], .row 113 [.fn (.func 81) [] [.pt 0 0, .pt 1 0, .pt 2 0, .pt 3 0, .pt 4 0]], .row 43 [.os 6 iv], .row 43 [.os 7 iv], .os 4 1 iv (eM E4 r.2.1), .os 3 1 iv (eM E3 r.2.2.1), .os 3 1 iv (eM E3 r.2.2.2)]))
 |0,_,_,_,_,_,_,_,_,_,h=>by cases h
 |n+1,_,_,_,bb,seen,l,pl,x0,_,h=>f81s_c (f81 n) bb seen l pl x0 (λbb seen l pl x0 _ h=>f81_c n bb seen l pl x0 h) h

theorem f46o_c{x0:lI}{f:Int}{e:Nat}{r:lI}(h:f46o x0 f=some r):Ctr prog 46 [.l E3 x0, .d (.i .i64 f)] [.os 3 1 e (eM E3 ([]:lI))] (xU 1 (λiv=> .os 0 iv) (λiv=> [.os 3 1 iv (eM E3 r)])):=by
 unfold f46o at h
 refine cI func46 λ_ _ _ hmm=>?_
 refine Rcc 12 q (Ci h q (λh=>?_) λh=>?_)
 cases h
 refine Rcl 5 q (Zq (ab E3 x0 e43 q q Zl) q (Rl 3 q (wF Z4 (f82_c) Lw Z3 (Rll 13 q ?_))))
 refine OG 3 23 26 3 3 ?_
 refine Rlc 2 q (Ci h q (λh=>?_) λh=>?_)
 cases h
 refine Rcl 6 q ?_
 replace h:=aT h
 obtain⟨j,h⟩:=h
 refine WL.s ((NewOs.b (NewOs.cast (cY l43 z3 q (Nat.succ_pos _) q q j) (by exact dO (R:=E3) (z:=(0:Int)) q))).does) (Zw q) q q (Rll 7 q (WL.s (sC (R:=E3) (List.replicate (Int.toNat (IntKind.i64.wrap ((f82 (IntKind.u64.wrap (List.length x0:Int)) (IntKind.u64.wrap f)).2))) (0:Int)) x0 l43 dC q q (Piece.os q (List.length_map _)) (Nat.zero_mul _).symm q q (fX Zl aZ λ_=>q) (λ_=>q) (λ_=>q) (pu _)) (Zw q) q q (Rlc 3 q (Jn1 (λ_=> [(7, .os 1 0)]) (λg=> [.os 3 1 e (eM E3 ([]:lI)), .os 3 1 0 (eM E3 g)]) h (λk h=>?_) λg h=>?_))))
 refine Rcc 1 q (Ln2 (λc _=> [(7, .os 1 0),(8, .n c)]) (λ_ a=> [.os 3 1 e (eM E3 ([]:lI)), .os 3 1 0 (eM E3 a)]) (f46o_l1 k) h (λ_ _ h=>by rw[f46o_l1] at h;cases h) λn c a h=>?_)
 rw[f46o_l1] at h
 refine Rcl 5 q (Zq (bD (aY E3) a e43 q q q) q (Rlc 3 q (Ci h q (λh=>?_) λh=>?_)))
 refine Rcc 3 q ?_
 replace h:=aT h
 obtain⟨m,h⟩:=h
 replace h:=aT h
 obtain⟨p,h⟩:=h
 replace h:=aT h
 obtain⟨t,h⟩:=h
 replace h:=aT h
 obtain⟨w,h⟩:=h
 apply RT [_,_,_,_,_,_,_,_,_,_] [7] [[.os 3 1 e (eM E3 ([]:lI)), .os 3 1 0 (eM E3 (nz a (Int.toNat c) (Int.toNat (List.length a:Int) - Int.toNat c) (List.take (Int.toNat c - Int.toNat 0) (List.drop (Int.toNat 0) a))))]] [u01 8,p01 7,p01 8,p20 1 2,p01 7,p01 8,p20 4 5,p20 3 6,q20 0 7 1,q10 8 1] kR kR q q
 refine X2a ?_
 refine Y2 ?_
 refine zo (λ_=>Zq (lE a (l:=c) (h:=(List.length a:Int)) e43 q q ⟨_,q⟩ q m) q (Zd q q q)) ?_
 refine Y2 ?_
 refine zo (λ_=>Zq (lE a (l:=0) (h:=c) e43 q q q ⟨_,q⟩ p) q (Zd q q q)) ?_
 refine zo (λ_=>WL.s (sC (R:=E3) a (List.take (Int.toNat c - Int.toNat 0) (List.drop (Int.toNat 0) a)) l43 dC q q Piece.ow q q q (xX q q t) (λ_=>q) (λ_=>q) w) (Zw q) q q (Zd q q q)) ?_
 exact Y2 Zt
 exact Rxx 1 q (Fn2 h)
 exact Rcx 4 q (En1 h)
 refine Rcx 7 q (j5 (oq [4] [] 1 0 q q q ⟨q,Zt⟩ Zt) ?_)
 obtain rfl:=Oi h
 exact gC (e+0+1) (rs1 q (bR q)) Zl q ⟨Zf,Zt⟩

theorem f45_c{b0:List al}{r:lI×lI}(h:f45 b0=some r):Pu prog 45 [.sl (List.map E55 b0)] (.tu [.sl (List.map E3 r.1), .sl (List.map E3 r.2)]):=by
 unfold f45 at h
 refine fI func45 λ_ _=>?_
 refine Rcl 2 q (Bx q q q (Al z43 q (Al z43 q (Rll 4 q (WL.s ((NewOs.b (af l43 z3 q dC dC q q q dC)).does) (Zw q) q q (Rl 1 q (Zq (ab E55 b0 e36 q q Zl) q ?_)))))))
 refine WL.freezeX [6] [] 3 _ q (an aZ [(-1)]) ⟨q,Zt⟩ Zt ?_
 obtain⟨w,j,h⟩:=ae h
 refine Gh.wl (jl 3 1) (oH [4] q q q q (f46o_c j) Lw q dC q ⟨q,Zt⟩ q q (λ_=>Kv) (λ_=>(Ro q)) (λ_=>q) (λ_=>q) (Zw q) q q λx=>?_)
 refine WL.s0 (bV q q q (cS q) s43 q) (Zw q) q (Rll 5 q (Zq (ab E55 b0 e36 q q Zl) q ?_))
 replace h:=aT h
 obtain⟨k,h⟩:=h
 refine WL.s ((NewOs.b (NewOs.cast (cY l57 z4 q (Nat.succ_pos _) q q k) (by exact dO (R:=E4) (z:=(false:Bool)) q))).does) (Zw q) q q (Al z57 q (WL.s0 (bV q q q (cS q) s57 q) (Zw q) q (Rll 4 q (Al z113 q (Rll 5 q (sS Z6 s113 Z2 (Rlc 2 q (WC.nil_cell 1 0 3 1 q q ?_))))))))
 replace h:=ay h
 obtain⟨m,p,h⟩:=h
 refine bf (λenv' st'=>∃(a:lI),∃(c:Nat),∃(d:List Bool),∃(e:Nat),∃(f:lI),∃(g:Nat),∃(c00v37:List al),m a d f c00v37=some r∧Sub [(2, .pt 1 0),(3, .pt 2 0)] env'∧SLe st' [.row 36 [.l E55 c00v37], .row 43 [.os 8 g], .row 43 [.os 4 c], .z, .os 3 1 c (eM E3 a), .os 4 1 e (eM E4 d), .row 57 [.os 5 e], .row 113 [.fn (.func 81) [] [.pt 6 0, .pt 0 0, .pt 7 0, .pt 1 0, .pt 2 0]], .os 3 1 g (eM E3 f)]) ?_ ?_
 refine Rcl 3 q (Zq (ab E55 b0 e36 q q Zl) q (Rlc 3 q (Ci h q (λh=>?_) λh=>?_)))
 refine Rcl 2 q ?_
 obtain⟨y,t,h⟩:=ae h
 refine St q (dX [6,0,7,1,2,5,8,4] q q q q (f81_c 100 _ _ _ _ _ t) Lw q dC (Re (Re (Re (Re (Re (Ro (Ro (Ro q)))))))) ⟨q,q,q,q,q,q,q,q,Zt⟩ Kv q (λ_=>Kv) (λ_=>(Re (Re (Re (Re (Re (Ro (Ro (Ro q))))))))) (Zw q) q q λA=>?_)
 exact Rlx 1 q (cw ⟨_,_,_,_,_,_,_,h,Sb,Tv⟩)
 exact Rcx 1 q (cw ⟨_,_,_,_,_,_,_,h,Sb,Tv⟩)
 rintro env1 st1 ⟨a,c,d,e,f,g,c00v37,h,hsub,hst⟩
 subst p
 dsimp only at h
 refine WC.sub hsub (WC.weak hst ?_)
 refine Rcc 1 q ?_
 apply RT [_,_, .u, .u] [] [] [p01 2,p01 3,p11 0 2,p11 1 3] kR kR q q
 refine Y2 ?_
 refine zo (λ_=>WL.s0 (bV q q q (cS q) s43 q) (Zw q) q (du q q)) ?_
 exact zo (λ_=>WL.s0 (bV q q q (cS q) s43 q) (Zw q) q (du q q)) Zt
 refine Rxx 2 q ?_
 refine WE.freezeX [19] [(1,0)] 8 _ q (an aZ _) ⟨q,Zt⟩ ⟨_,_,q,q,Zt⟩ ?_
 refine WE.freezeX [20] [(2,0)] 4 _ q (an aZ _) ⟨q,Zt⟩ ⟨_,_,q,q,Zt⟩ ?_
 obtain rfl:=Oi h
 exact bm (rs2 q (lh q q a43 q) (lh q q a43 q)) (eP Lw)

theorem f34_c{ver:Nat}(l:lI){r:lI}(h:f34 l=some r):Ctr prog 34 [.os 0 ver] [.os 3 1 ver (eM E3 l)] (gy 1 (.tu []) (λ_=> [.os 3 1 ver (eM E3 r)])):=by
 unfold f34 at h
 obtain⟨h1,h⟩:=aT h
 obtain rfl:=Oi h
 exact vG ⟨Tryz.f34,func34,by kernel_rfl,by kernel_rfl⟩ (λblk off cap zs w a b c=>Go.Proofs.Any.slices_Sort_int eA blk off cap zs w a b c) (λp cap w=>Go.Proofs.Any.slices_Sort_int_none eA p cap w) (of_decide_eq_true h1)

theorem f41_c{ver:Nat}(l:lI){r:lI}(h:f41 l=some r):Ctr prog 41 [.os 0 ver] [.os 3 1 ver (eM E3 l)] (gy 1 (.sl (List.map E3 r)) (λ_=> [.z])):=by
 obtain rfl:=Oi h
 exact pU ⟨Tryz.f41,func41,by kernel_rfl,by kernel_rfl⟩ (λblk off cap zs w a b c=>Go.Proofs.Any.slices_Compact_int fW blk off cap zs w a b c) (λp cap w=>Go.Proofs.Any.slices_Compact_int_empty fW p cap w) (Lib.compact_length_le l)

theorem f40o_c{s0:lI}{a:Nat}{r:lI}(h:f40o s0=some r):Ctr prog 40 [.l E3 s0] [.os 3 1 a (eM E3 ([]:lI))] (xU 1 (λiv=> .os 0 iv) (λiv=> [.os 3 1 iv (eM E3 r)])):=by
 unfold f40o at h
 replace h:=aT h
 obtain⟨hg,h⟩:=h
 obtain rfl:=Oi h
 refine cI func40 λ_ _ _ hmm=>?_
 refine Rcl 9 q (vU false q underlying43 q Zl (Zw q) q λb hb=>?_)
 refine Rlc 2 q (fq q (λhc=>?_) λhc=>?_)
 have c:=hb (by cases b<;>first|rfl|cases hc)
 have d:s0=[]:=by cases s0<;>first|rfl|cases c
 subst d
 exact Rcx 7 q (j5 (tC 2 3 1 q) (j5 (oq [2] [] 1 0 q q q ⟨q,Zt⟩ Zt) (gC (a+0+1) (rs1 q (bR q)) Zl q ⟨Zf,Zt⟩)))
 exact Rcl 4 q (WL.s (((kY l43).b).does) (Zw q) q q (Rl 1 q (WL.s (bj E3 ([]:lI) s0 l43 z3 q dC q q q q (fX Zl aZ λ_=>q) (λ_=>q) (λ_=>q) hg) (Zw q) q q (Rlx 4 q (j5 (oq [2] [] 1 0 q q q ⟨q,Zt⟩ Zt) (gC (a+(0+1)+1) (rs1 q (bR q)) Zl q ⟨Zf,Zt⟩))))))

theorem f80_c(n0:Int)(a:List al):Pu prog 80 [.i .i64 n0, .pc (E36 a)] (.b (f80 n0 a)):=by
 generalize h:f80 n0 a=r
 unfold f80 at h
 refine fI func80 λ_ _=>?_
 refine Rcl 10 q ?_
 apply WL.or 5 (t:=6) (d:=11)
 exact q
 intro c
 exact Rl 2 q (Zy (ab E55 a e36 q q Zl) q q q (Rl 2 q (WL.nil ⟨q,[_,_,_,_,_],q,q,q⟩)))
 exact Rn 5 5
 exact Rlx 4 q (FB h)

theorem f129_c(s0:lI)(a:Int→oB)(g1:FuncId)(c e:lD)(g:∀(y0:Int)(r:Bool),a y0=some r→Pu prog g1 (c++ [.i .i64 y0]++e) (.b r)){r:Int}(h:f129 s0 a=some r):Pu prog 129 [.sl (List.map E3 s0), .fnc (.func g1) c e] (.i .i64 r):=by
 unfold f129 at h
 refine fI func129 λ_ _=>?_
 refine WC.cast 1 q (eZ _ _ _) (Rcc 5 q (Jn0 [] [] h (λj h=>?_) λh=>?_))
 refine Rcl 3 q (Zq (ab E3 s0 e43 q q Zl) q (Rlc 4 q (Ln1 (λf=> [(0, .l E3 s0),(1, .fn (.func g1) (List.map AV.d c) (List.map AV.d e)),(7, .n (List.length s0:Int)),(8, .n f)]) (λ_=> []) (f129_l1 s0 a j) h (λ_ h=>by rw[f129_l1] at h;cases h) λn f h=>?_)))
 rw[f129_l1] at h
 refine Rcc 6 q (Ci h q (λh=>?_) λh=>?_)
 refine Rcl 15 q (Ix h e43 aZ q Zl q q λm _ h=>(Rl 1 q ?_))
 obtain⟨p,k,h⟩:=ae h
 refine WL.fn q q q q (g _ _ k) (j0 Lw) (Zw q) q q (Rlc 2 q (Ci h q (λh=>?_) λh=>?_))
 exact Rcx 12 q (FA h)
 exact Rcx 7 q (Fn1 h)
 exact Rcx 4 q (En0 h)
 exact Rcx 6 q (FA h)

theorem f79_c(s0:lI)(d:Int→oB)(g1:FuncId)(a c:lD)(e:∀(y0:Int)(r:Bool),d y0=some r→Pu prog g1 (a++ [.i .i64 y0]++c) (.b r)){r:Bool}(h:f79 s0 d=some r):Pu prog 79 [.sl (List.map E3 s0), .fnc (.func g1) a c] (.b r):=by
 unfold f79 at h
 refine fI func79 λ_ _=>?_
 refine WC.cast 1 q (eZ _ _ _) (Rcl 9 q ?_)
 obtain⟨g,f,h⟩:=ae h
 exact wF Z4 (f129_c _ _ g1 a c e f) ⟨Zl,(Le.fnc (Zs _) (Zs _)),Zt⟩ Z3 (Rlx 5 q (FA h))

theorem f78_c(x0:al)(a:List al){r:Bool}(h:f78 x0 a=some r):Pu prog 78 [.ag (R55 x0), .pc (E36 a)] (.b r):=by
 unfold f78 at h
 refine fI func78 λ_ _=>?_
 refine Rcl 2 q (Bd q q (Zs _) q (Rll 8 q ?_))
 obtain⟨d,c,h⟩:=ae h
 exact wF Z4 (f79_c _ _ 80 [] [(.pc (E36 a))] (λz0 _ h=>by obtain rfl:=inS h;exact f80_c z0 a) c) ⟨Zl,(Le.fnc Zt Lw),Zt⟩ Z3 (Rlx 4 q (FA h))

theorem f128_c(s0:List al)(a:al→oB)(g1:FuncId)(c e:lD)(g:∀(y0:al)(r:Bool),a y0=some r→Pu prog g1 (c++ [.ag (R55 y0)]++e) (.b r)){r:Int}(h:f128 s0 a=some r):Pu prog 128 [.sl (List.map E55 s0), .fnc (.func g1) c e] (.i .i64 r):=by
 unfold f128 at h
 refine fI func128 λ_ _=>?_
 refine WC.cast 1 q (eZ _ _ _) (Rcc 5 q (Jn0 [] [] h (λj h=>?_) λh=>?_))
 refine Rcl 3 q (Zq (ab E55 s0 e36 q q Zl) q (Rlc 4 q (Ln1 (λf=> [(0, .l E55 s0),(1, .fn (.func g1) (List.map AV.d c) (List.map AV.d e)),(7, .n (List.length s0:Int)),(8, .n f)]) (λ_=> []) (f128_l1 s0 a j) h (λ_ h=>by rw[f128_l1] at h;cases h) λn f h=>?_)))
 rw[f128_l1] at h
 refine Rcc 6 q (Ci h q (λh=>?_) λh=>?_)
 refine Rcl 15 q (Ix h e36 cJ q Zl q q λm _ h=>(Rl 1 q ?_))
 obtain⟨p,k,h⟩:=ae h
 refine WL.fn q q q q (g _ _ k) (j0 Lw) (Zw q) q q (Rlc 2 q (Ci h q (λh=>?_) λh=>?_))
 exact Rcx 12 q (FA h)
 exact Rcx 7 q (Fn1 h)
 exact Rcx 4 q (En0 h)
 exact Rcx 6 q (FA h)

theorem f77_c(s0:List al)(d:al→oB)(g1:FuncId)(a c:lD)(e:∀(y0:al)(r:Bool),d y0=some r→Pu prog g1 (a++ [.ag (R55 y0)]++c) (.b r)){r:Bool}(h:f77 s0 d=some r):Pu prog 77 [.sl (List.map E55 s0), .fnc (.func g1) a c] (.b r):=by
 unfold f77 at h
 refine fI func77 λ_ _=>?_
 refine WC.cast 1 q (eZ _ _ _) (Rcl 9 q ?_)
 obtain⟨g,f,h⟩:=ae h
 exact wF Z4 (f128_c _ _ g1 a c e f) ⟨Zl,(Le.fnc (Zs _) (Zs _)),Zt⟩ Z3 (Rlx 5 q (FA h))

theorem f44_c{b0:List al}{r:Bool}(h:f44 b0=some r):Pu prog 44 [.sl (List.map E55 b0)] (.b r):=by
 unfold f44 at h
 refine fI func44 λ_ _=>?_
 refine Rcl 2 q (WL.s ((hZ q q (by exact(show Les [.l E55 b0] (List.map AV.d [.sl (List.map E55 b0)]) from Lw))).does) (Zw q) q q (Rll 7 q ?_))
 obtain⟨r9,a,h⟩:=ae h
 exact wF Z4 (f77_c _ _ 78 [] [(.pc (E36 b0))] (λz0 _ h=>f78_c z0 b0 h) a) ⟨Zl,(Le.fnc Zt Lw),Zt⟩ Z3 (Rlx 5 q (FA h))

theorem f42_c{a:lI}{d1:Int}{n2:Int}{r:Bool}(h:f42 a d1 n2=some r):Pu prog 42 [.sl (List.map E3 a), .i .i64 d1, .i .i64 n2] (.b r):=by
 unfold f42 at h
 refine fI func42 λ_ _=>?_
 refine Rcc 5 q (Jn1 (λc=> [(1, .n d1),(2, .n c)]) (λ_=> []) h (λe h=>?_) λc h=>?_)
 refine Rcc 1 q (Ln1 (λd=> [(0, .l E3 a),(1, .n d1),(2, .n d)]) (λ_=> []) (f42_l1 a d1 e) h (λ_ h=>by rw[f42_l1] at h;cases h) λn d h=>?_)
 rw[f42_l1] at h
 refine Rcl 6 q ?_
 refine AG 4 9 13 4 4 ?_
 exact Rlc 2 q (Ci h q (λh=>Rcl 6 q (Ix h e43 aZ q Zl q q λf _ h=>(Rlx 4 q (Fn1 h)))) λh=>Rcx 4 q (En1 h))
 exact Rcx 9 q (FA h)

theorem f19_c(b0:List al){r:lI}(h:f19 b0=some r):Pu prog 19 [.sl (List.map E55 b0)] (.sl (List.map E3 r)):=by
 unfold f19 at h
 refine fI func19 λ_ _=>?_
 refine Rcl 9 q ?_
 obtain⟨dd,b4,h⟩:=ae h
 refine wF Z4 (f44_c b4) Lw Z3 (Rl 2 q ?_)
 apply WL.or 4 (t:=21) (d:=25)
 exact q
 intro df
 exact Rl 1 q (Zy (ab E55 b0 e36 q q Zl) q q q (Rl 2 q (WL.nil ⟨q,[_,_,_,_],q,q,q⟩)))
 exact Rn 4 4
 refine Rlc 2 q (Ci h q (λh=>Rcx 7 q (FA h)) λh=>?_)
 refine Rcl 5 q ?_
 obtain⟨a,b5,h⟩:=ae h
 refine wF Z4 (f45_c b5) Lw Z3 (Rl 3 q (Al z43 q (Rl 1 q (sS Z6 s43 Z2 (Rll 5 q (Zq (ab E55 b0 e36 q q Zl) q ?_))))))
 replace h:=aT h
 obtain⟨b6,h⟩:=h
 refine WL.s ((NewOs.b (cY l26 z43 q (Nat.succ_pos _) q q b6)).does) (Zw q) q q (Gh.wl (mu E3 1 3 1 q) (Al z26 q (WL.s0 (bV q q q (cS q) s26 q) (Zw q) q (Rlc 2 q ?_))))
 replace h:=ay h
 obtain⟨Z,b7,h⟩:=h
 refine bf (λenv' st'=>∃(e:lL),∃(M:Nat),Z e=some r∧Sub [(0, .l E55 b0),(3, .l E3 a.1),(4, .pt 0 0),(5, .pt 3 0)] env'∧SLe st' [.row 43 [.l E3 a.2], .os 43 1 0 (bZ 2 M (List.length e)), .fam 3 1 M (eO E3 e), .row 26 [.os 1 0]]) ?_ ?_
 refine Rcl 3 q (Zq (ab E3 a.1 e43 q q Zl) q (Rlc 4 q (bq (λn env' st'=>∃(C:Int),∃(H:lL),∃(N:Nat),f19_l1 b0 a Z n C H=some r∧Sub [(0, .l E55 b0),(3, .l E3 a.1),(4, .pt 0 0),(5, .pt 3 0),(34, .l E3 a.1),(35, .n (List.length a.1:Int)),(36, .n C)] env'∧SLe st' [.row 43 [.l E3 a.2], .os 43 1 0 (bZ 2 N (List.length H)), .fam 3 1 N (eO E3 H), .row 26 [.os 1 0]]) (λn=>n) (Int.toNat ((List.length a.1:Int) - 0)+1) ⟨0,(List.replicate (Int.toNat (List.length b0:Int)) ([]:lI)),_,h,(Sx q (Sx q (Sx q (Sx q (Sx q (Sx q (Sx q (Sub.nil _)))))))),⟨Zp,Zf,Zf,Zp,Zt⟩⟩ ?_)))
 rintro n env1 st1 ⟨C,H,N,h,hsub,hst⟩
 rcases n with _|n
 rw[f19_l1] at h;cases h
 rw[f19_l1] at h
 refine WC.sub hsub (WC.weak hst ?_)
 refine Rcc 6 q (Ci h q (λh=>?_) λh=>?_)
 refine Rcc 2 q ?_
 replace h:=ay h
 obtain⟨aa,b8,h⟩:=h
 refine bf (λenv' st'=>∃(I:lL),∃(O:Nat),aa I=some r∧Sub [(0, .l E55 b0),(3, .l E3 a.1),(4, .pt 0 0),(5, .pt 3 0),(34, .l E3 a.1),(35, .n (List.length a.1:Int)),(36, .n C)] env'∧SLe st' [.row 43 [.l E3 a.2], .os 43 1 0 (bZ 2 O (List.length I)), .fam 3 1 O (eO E3 I), .row 26 [.os 1 0]]) ?_ ?_
 refine Rcl 3 q (Ix h e43 aZ q Zl q q λm _ h=>(Rll 8 q (Ix h e36 cJ q Zl q q λA _ h=>(Rl 2 q (Zq (ab E3 A.next e43 q q Zl) q (Rlc 4 q (bq (λna env' st'=>∃(J:Int),∃(f:lL),∃(p:Nat),f19_l2 aa m A na J f=some r∧Sub [(0, .l E55 b0),(3, .l E3 a.1),(4, .pt 0 0),(5, .pt 3 0),(7, .n m),(34, .l E3 a.1),(35, .n (List.length a.1:Int)),(36, .n C),(44, .l E3 A.next),(45, .n (List.length A.next:Int)),(46, .n J)] env'∧SLe st' [.row 43 [.l E3 a.2], .os 43 1 0 (bZ 2 p (List.length f)), .fam 3 1 p (eO E3 f), .row 26 [.os 1 0]]) (λn=>n) (Int.toNat ((List.length A.next:Int) - 0)+1) ⟨0,H,_,h,(Sx q (Sx q (Sx q (Sx q (Sx q (Sx q (Sx q (Sx q (Sx q (Sx q (Sx q (Sub.nil _)))))))))))),⟨Zp,Zf,Zf,Zp,Zt⟩⟩ ?_)))))))
 rintro na env1 st1 ⟨J,f,p,h,hsub,hst⟩
 rcases na with _|na
 rw[f19_l2] at h;cases h
 rw[f19_l2] at h
 refine WC.sub hsub (WC.weak hst ?_)
 refine Rcc 6 q (Ci h q (λh=>?_) λh=>?_)
 refine Rcl 6 q (Ix h e43 aZ q Zl q q λw _ h=>(Rlc 4 q ?_))
 obtain⟨F,y,h⟩:=ae h
 replace h:=aT h
 obtain⟨b9,h⟩:=h
 apply RT [_,_,_,_,_,_,_,_,_,_, .u] [5,8,10] [[.row 43 [.l E3 a.2], .os 43 1 0 (List.set (bZ 2 (p+1) (List.length f)) (Int.toNat w) [.os 4 0]), .fam 3 1 (p+1) (eO E3 (List.set f (Int.toNat w) [])), .row 26 [.os 1 0], .os 3 1 0 (eM E3 F)],[.row 43 [.l E3 a.2], .os 43 1 0 (List.set (bZ 2 (p+1) (List.length f)) (Int.toNat w) [.os 4 0]), .fam 3 1 (p+1) (eO E3 (List.set f (Int.toNat w) [])), .row 26 [.os 1 0], .os 3 1 1 (eM E3 (F++ [m]))],[.row 43 [.l E3 a.2], .os 43 1 0 (List.set (bZ 2 (p+1) (List.length f)) (Int.toNat w) [.os 4 1]), .fam 3 1 (p+1) (eO E3 (List.set f (Int.toNat w) [])), .row 26 [.os 1 0], .os 3 1 1 (eM E3 (F++ [m]))]] [([],[5],[0,1,2]),([],[9],[0,1,2]),p01 5,p01 9,p20 2 3,p10 4,u01 7,u10 6,q20 5 7 1,q20 0 1 2,q20 9 8 2] kR kR q q
 refine X3b ?_
 refine Y2 ?_
 refine zo (λ_=>Zq (oU e26 q q q (ai y) (gX y)) q (Zd q q q)) ?_
 refine zo (λ_=>Gh.wl (kZ (L:=f) (x:=F) (i:=w) 1 2 q q q y) (Zq (lG (i:=w) q q a43 (e9 y)) q (Zd q q q))) ?_
 refine X2a ?_
 refine⟨⟨λ_=>WL.s ((NewOs.data (af l43 z3 q dC dC q q q dC) (by exact an aZ [m])).does) (Zw q) q q (Zd q q q),λ_=>WL.s ((NewOs.data (af l43 z3 q dC dC q q q dC) (by exact an aZ [m])).does) (Zw q) q q (Zd q q q),Zt⟩,?_⟩
 refine zo (λ_=>WL.s (bj E3 F [m] l43 z3 q dC q q q q (fX Zl aZ λ_=>q) (λ_=>q) (λ_=>q) b9) (Zw q) q q (Zd q q q)) ?_
 refine zo (λ_=>Zq (m5 e26 q q q (ai y) (gX y)) q (Zd q q q)) ?_
 exact zo (λ_=>WL.s0 (jQ (i:=w) (n:=List.length f) q q q q s43 (e9 y)) (Zw q) q (du q q)) Zt
 exact j5 (k8 (L0:=f) (x':=(F++ [m])) 1 2 4 q q q q q (e9 y)) (Rxx 6 q (WE.drop 4 (env':=[(0, .l E55 b0),(3, .l E3 a.1),(4, .pt 0 0),(5, .pt 3 0),(7, .n m),(34, .l E3 a.1),(35, .n (List.length a.1:Int)),(36, .n C),(44, .l E3 A.next),(45, .n (List.length A.next:Int)),(46, .n (IntKind.i64.wrap (J+1)))]) Sb q Kv (Nat.zero_le _) (Fn3 h)))
 exact Rcx 5 q (En2 h)
 rintro env1 st1 ⟨I,O,h,hsub,hst⟩
 subst b8
 dsimp only at h
 refine WC.sub hsub (WC.weak hst ?_)
 exact Rcx 4 q (Fn3 h)
 exact Rcx 4 q (En2 h)
 rintro env1 st1 ⟨e,M,h,hsub,hst⟩
 subst b7
 dsimp only at h
 refine WC.sub hsub (WC.weak hst ?_)
 refine Rcc 1 q (yL (mw (E:=E3) (R':=E3) (L:=e) 1 2 aZ q q q) ?_)
 refine WC.freezeX [] [(3,0)] 1 _ q (an kO _) Zt ⟨_,_,q,q,Zt⟩ (Rcl 1 q (WL.s ((NewOs.b (af l43 z3 q dC dC q q q dC)).does) (Zw q) q q (Rl 1 q (Zq (ab E55 b0 e36 q q Zl) q ?_))))
 refine WL.freezeX [62] [] 4 _ q (an aZ [(-1)]) ⟨q,Zt⟩ Zt ?_
 obtain⟨dk,b',h⟩:=ae h
 refine Gh.wl (jl 3 1) (oH [5] q q q q (f46o_c b') Lw q dC q ⟨q,Zt⟩ q q (λ_=>Kv) (λ_=>(Ro q)) (λ_=>q) (λ_=>q) (Zw q) q q λc=>?_)
 refine Al z43 q (WL.s0 (bV q q q (cS q) s43 q) (Zw q) q (Rll 5 q ?_))
 obtain⟨dr,ad,h⟩:=ae h
 refine Zq (fk e43 q q q ad) q (WL.s0 (cE (R:=E3) (k:=1) (i:=0) (fo:=0) 0 q q q q Zl q q q s3 q (λ_=>q) ad q q) (Zw q) q (Rll 5 q (Al z82 q (sS Z6 s82 Z2 (Rlc 2 q (Jn2 (λ_ _=> [(10, .pt 6 0)]) (λag c80v158=> [.row 43 [.l E3 a.2], .z, .z, .row 26 [.l E43 e], .z, .os 3 1 c (eM E3 ag), .row 43 [.os 5 c], .row 82 [.fn (.func 47) [] [.pt 0 0, .pt 6 0]], .row 4 [.d (D.b c80v158)]]) h (λca h=>?_) λag c80v158 h=>?_))))))
 refine Rcl 2 q (Al z4 q (sS Z6 s4 Z2 (Rlc 3 q (Ln2 (λ_ _=> [(3, .l E3 a.1),(5, .pt 3 0),(10, .pt 6 0),(11, .pt 7 0),(12, .pt 8 0)]) (λP c80v163=> [.row 43 [.l E3 a.2], .z, .z, .row 26 [.l E43 e], .z, .os 3 1 c (eM E3 P), .row 43 [.os 5 c], .row 82 [.fn (.func 47) [] [.pt 0 0, .pt 6 0]], .row 4 [.d (D.b c80v163)]]) (f19_l3 a e ca) h (λ_ _ h=>by rw[f19_l3] at h;cases h) λn P c80v163 h=>?_))))
 rw[f19_l3] at h
 refine Rcc 6 q (Ci h q (λh=>?_) λh=>?_)
 refine Rcc 2 q (Jn2 (λ_ _=> [(3, .l E3 a.1),(5, .pt 3 0),(10, .pt 6 0),(11, .pt 7 0),(12, .pt 8 0)]) (λa0 c80v167=> [.row 43 [.l E3 a.2], .z, .z, .row 26 [.l E43 e], .z, .os 3 1 c (eM E3 a0), .row 43 [.os 5 c], .row 82 [.fn (.func 47) [] [.pt 0 0, .pt 6 0]], .row 4 [.d (D.b c80v167)], .z]) h (λ_ h=>?_) λa0 c80v167 h=>?_)
 refine Rcl 3 q (sS Z6 s4 Z2 (Rll 5 q ?_))
 obtain⟨cb,cc,h⟩:=ay h
 refine WL.inl (us:=[.l E3 a.1]) (λrv st'=>(cb ()=some r∧Le rv (.fn (.func 83) [] [.d (.pc (E43 a.1))])∧SLe st' [.row 43 [.l E3 a.2], .z, .z, .row 26 [.l E43 e], .z, .os 3 1 c (eM E3 P), .row 43 [.os 5 c], .row 82 [.fn (.func 47) [] [.pt 0 0, .pt 6 0]], .row 4 [.d (D.b false)]])) q q q q q ?_ (Zw q) q q ?_
 refine cI func48 λ_ _ _ _=>?_
 exact Rcl 2 q (WL.s ((hZ q q (by exact(show Les [.l E3 a.1] (List.map AV.d [.sl (List.map E3 a.1)]) from Lw))).does) (Zw q) q q (Rlx 10 q (aG (rs1 q (bR q)) ⟨h,Zl,⟨Zp,Zt,Zt,Zp,Zt,Zf,Zp,Zp,Zp,Zt⟩⟩)))
 rintro rv st1 ⟨h,hr,hst⟩
 subst cc
 dsimp only at h
 refine WL.cast 71 q hr (WL.weak hst (Zn (Rcc 1 q ?_)))
 obtain⟨a1,cd,h⟩:=ay h
 refine o5 (us:=[.yl 9, .d (.pc (E43 a.1))]) [5,10,11,12] 9 (λj rv st'=>(∃(Q:lI),∃(c80v173:Bool),a1 Q c80v173=some r∧SLe st' [.row 43 [.l E3 a.2], .z, .z, .row 26 [.l E43 e], .z, .os 3 1 c (eM E3 Q), .row 43 [.os 5 c], .row 82 [.fn (.func 47) [] [.pt 0 0, .pt 6 0]], .row 4 [.d (D.b c80v173)], .lp j [.pt 3 0, .pt 6 0, .pt 7 0, .pt 8 0] .ready none])) q q q q q (λj ci=>?_) ?_
 refine cI func83 λ_ _ _ _=>?_
 refine Rcl 3 q (Zq (ab E3 a.1 e43 q q Zl) q (Rlc 5 q (Ln3 (λS _ _=> [(0, .yl 9),(1, .d (.pc (E43 a.1))),(3, .n S)]) (λ_ g c80v180=> [.row 43 [.l E3 a.2], .z, .z, .row 26 [.l E43 e], .z, .os 3 1 c (eM E3 g), .row 43 [.os 5 c], .row 82 [.fn (.func 47) [] [.pt 0 0, .pt 6 0]], .row 4 [.d (D.b c80v180)], .lp j [.pt 3 0, .pt 6 0, .pt 7 0, .pt 8 0] .ready none]) (f19_l4 a e a1) h (λ_ _ _ h=>by rw[f19_l4] at h;cases h) λna S g c80v180 h=>?_)))
 rw[f19_l4] at h
 refine Rcc 7 q (Ci h q (λh=>?_) λh=>?_)
 refine Rcl 10 q (Ix h e43 aZ q Zl q q λB _ h=>(Rl 1 q ?_))
 obtain⟨cj,ck,h⟩:=ay h
 refine WL.yield (env0:=[(72, .n S),(73, .n B),(5, .pt 3 0),(10, .pt 6 0),(11, .pt 7 0),(12, .pt 8 0)]) (λrv st'=>(∃(T:lI),∃(c80v187:Bool),cj T c80v187=some r∧rv= .d (.v (.bool true))∧SLe st' [.row 43 [.l E3 a.2], .z, .z, .row 26 [.l E43 e], .z, .os 3 1 c (eM E3 T), .row 43 [.os 5 c], .row 82 [.fn (.func 47) [] [.pt 0 0, .pt 6 0]], .row 4 [.d (D.b c80v187)], .lp j [.pt 3 0, .pt 6 0, .pt 7 0, .pt 8 0] .ready none])) ci q q q q q q q (λee hn U ds=>?_) (Zw q) q q ?_
 obtain⟨em,eφ,ew,en,er⟩:=ee
 subst hn
 refine Rcx 3 q (gE U q (Rcc 6 q (Jn1 (λK=> [(10, .pt 6 0),(12, .pt 8 0),(14, .n B),(15, .n K)]) (λ_=> [.row 43 [.l E3 a.2], .z, .z, .row 26 [.l E43 e], .z, .os 3 1 c (eM E3 g), .row 43 [.os 5 c], .row 82 [.fn (.func 47) [] [.pt 0 0, .pt 6 0]], .row 4 [.d (D.b c80v180)], .lp j [.pt 3 0, .pt 6 0, .pt 7 0, .pt 8 0] .busy none]) h (λcl h=>?_) λK h=>?_)))
 refine Rcl 4 q (Ix h e26 kO q Zl q q λG _ h=>(Rl 1 q (Zq (ab E3 G e43 q q Zl) q (Rlc 4 q (Ln2 (λV W=> [(10, .pt 6 0),(11, .pt 7 0),(12, .pt 8 0),(14, .n B),(15, .n V),(77, .l E3 G),(78, .n (List.length G:Int)),(79, .n W)]) (λ_ _=> [.row 43 [.l E3 a.2], .z, .z, .row 26 [.l E43 e], .z, .os 3 1 c (eM E3 g), .row 43 [.os 5 c], .row 82 [.fn (.func 47) [] [.pt 0 0, .pt 6 0]], .row 4 [.d (D.b c80v180)], .lp j [.pt 3 0, .pt 6 0, .pt 7 0, .pt 8 0] .busy none]) (f19_l5 a g B cl G) h (λ_ _ h=>by rw[f19_l5] at h;cases h) λnb V W h=>?_)))))
 rw[f19_l5] at h
 refine Rcc 6 q (Ci h q (λh=>?_) λh=>?_)
 refine Rcc 2 q (Jn1 (λa6=> [(10, .pt 6 0),(11, .pt 7 0),(12, .pt 8 0),(14, .n B),(15, .n a6),(77, .l E3 G),(78, .n (List.length G:Int)),(79, .n W)]) (λ_=> [.row 43 [.l E3 a.2], .z, .z, .row 26 [.l E43 e], .z, .os 3 1 c (eM E3 g), .row 43 [.os 5 c], .row 82 [.fn (.func 47) [] [.pt 0 0, .pt 6 0]], .row 4 [.d (D.b c80v180)], .lp j [.pt 3 0, .pt 6 0, .pt 7 0, .pt 8 0] .busy none]) h (λ_ h=>?_) λa6 h=>?_)
 refine Rcl 3 q (Ix h e43 aZ q Zl q q λcp _ h=>(Rll 10 q ?_))
 obtain⟨cr,c0,h⟩:=ae h
 refine Gg 6 90 96 cr c0 (λh=>?_) (λh=>?_) ?_
 exact On 6 6 h
 refine Rl 2 q ?_
 obtain⟨dS,a7,h⟩:=ae h
 exact Zy (fk e43 q q q a7) q q q (Zy (bx (fo:=0) q q q a3 (λ_=>q) a7 q) q q q (On 2 6 h))
 refine Rlc 3 q (Ci h q (λh=>Rcx 3 q (En1 h)) λh=>?_)
 refine Rcc 7 q (Ci h q (λh=>Rcx 6 q (En1 h)) λh=>?_)
 refine Rcl 4 q ?_
 obtain⟨c5,c6,h⟩:=ay h
 refine WL.inl (us:=[.n V, .n cp, .pt 0 0, .pt 6 0]) (λrv st'=>(∃(X:Int),c5 X=some r∧Le rv (.n X)∧SLe st' [.row 43 [.l E3 a.2], .z, .z, .row 26 [.l E43 e], .z, .os 3 1 c (eM E3 g), .row 43 [.os 5 c], .row 82 [.fn (.func 47) [] [.pt 0 0, .pt 6 0]], .row 4 [.d (D.b c80v180)], .lp j [.pt 3 0, .pt 6 0, .pt 7 0, .pt 8 0] .busy none])) q q q q q ?_ (Zw q) q q ?_
 refine cI func47 λ_ _ _ dT=>?_
 refine Rcc 5 q (Jn1 (λY=> [(0, .n Y)]) (λ_=> [.row 43 [.l E3 a.2], .z, .z, .row 26 [.l E43 e], .z, .os 3 1 c (eM E3 g), .row 43 [.os 5 c], .row 82 [.fn (.func 47) [] [.pt 0 0, .pt 6 0]], .row 4 [.d (D.b c80v180)], .lp j [.pt 3 0, .pt 6 0, .pt 7 0, .pt 8 0] .busy none]) h (λc7 h=>?_) λY h=>?_)
 refine Rcc 1 q (Ln2 (λa8 a'=> [(0, .n a8),(1, .n a'),(2, .pt 0 0),(3, .pt 6 0)]) (λ_ _=> [.row 43 [.l E3 a.2], .z, .z, .row 26 [.l E43 e], .z, .os 3 1 c (eM E3 g), .row 43 [.os 5 c], .row 82 [.fn (.func 47) [] [.pt 0 0, .pt 6 0]], .row 4 [.d (D.b c80v180)], .lp j [.pt 3 0, .pt 6 0, .pt 7 0, .pt 8 0] .busy none]) (f19_l6 a g c7) h (λ_ _ h=>by rw[f19_l6] at h;cases h) λnc a8 a' h=>?_)
 rw[f19_l6] at h
 refine Rcc 8 q (Ci h q (λh=>?_) λh=>?_)
 refine Rcc 4 q (aD kR kR (Rq 2 q ?_))
 obtain⟨d0,bb,h⟩:=ae h
 refine WQ.qn (aj e43 q Zl q (ai bb) (av aZ bb) q) q (Rq 3 q ?_)
 obtain⟨d1,bk,h⟩:=ae h
 refine WQ.qn (aj e43 q Zl q (ai bk) (av aZ bk) q) q (Rq 2 q (WQ.nil (Rxc 1 q (Ci h q (λh=>?_) λh=>?_))))
 refine Rcl 3 q ?_
 obtain⟨d',bo,h⟩:=ae h
 exact Zq (fk e43 q q q bo) q (Zq (bx (fo:=0) q q q a3 (λ_=>q) bo q) q (Rlx 3 q (Fn2 h)))
 refine Rcl 3 q ?_
 obtain⟨ec,bs,h⟩:=ae h
 exact Zq (fk e43 q q q bs) q (Zq (bx (fo:=0) q q q a3 (λ_=>q) bs q) q (Rlx 3 q (Fn2 h)))
 exact Rcx 4 q (En1 h)
 exact Rcx 7 q (aG (rs1 q (bR q)) ⟨Y,h,Zl,⟨Zp,Zt,Zt,Zp,Zt,Zf,Zp,Zp,Zp,⟨q,Zs _,q,q⟩,Zt⟩⟩)
 rintro rv st1 ⟨X,h,hr,hst⟩
 subst c6
 dsimp only at h
 exact WL.cast 86 q hr (WL.weak hst (Rl 1 q (WL.nil (Rxx 2 q (En1 h)))))
 exact Rcx 4 q (Fn2 h)
 exact Rcx 4 q (En1 h)
 refine Rcl 5 q ?_
 obtain⟨c8,c',h⟩:=ae h
 refine Gg 7 104 111 c8 c' (λh=>?_) (λh=>?_) ?_
 refine Rl 2 q ?_
 obtain⟨ei,b1,h⟩:=ae h
 exact Zy (fk e43 q q q b1) q q q (Zy (bx (fo:=0) q q q a3 (λ_=>q) b1 q) q q q (On 3 7 h))
 exact On 7 7 h
 refine Rlc 2 q (Ci h q (λh=>?_) λh=>?_)
 refine Rcl 4 q ?_
 obtain⟨ej,b2,h⟩:=ae h
 exact Zq (fk e43 q q q b2) q (WL.s0 (cE (R:=E3) (k:=1) (i:=B) (fo:=0) K q q q q Zl q q q s3 q (λ_=>q) b2 q q) (Zw q) q (sS Z6 s4 Z2 (Rlx 2 q (eS U q ⟨(List.set g (Int.toNat B) K),true,h,q,⟨Zp,Zt,Zt,Zp,Zt,Zf,Zp,Zp,Zp,⟨q,Zs _,q,q⟩,Zt⟩⟩))))
 exact Rcx 2 q (eS U q ⟨g,c80v180,h,q,⟨Zp,Zt,Zt,Zp,Zt,Zf,Zp,Zp,Zp,⟨q,Zs _,q,q⟩,Zt⟩⟩)
 rintro rv st1 ⟨T,c80v187,h,rfl,hst⟩
 subst ck
 dsimp only at h
 exact WL.weak hst (Rl 1 q (Zn (cU q (Rcx 8 q (Fn3 h)))))
 exact Rcx 4 q (ce (aG (d3 q) ⟨g,c80v180,h,⟨Zp,Zt,Zt,Zp,Zt,Zf,Zp,Zp,Zp,⟨q,Zs _,q,q⟩,Zt⟩⟩))
 rintro j rv st1 ⟨Q,c80v173,h,hst⟩
 subst cd
 dsimp only at h
 refine⟨_,_,_,_,_,hst,q,(by intro h;cases h),?_⟩
 exact Rxx 2 q (En2 h)
 exact Rcl 6 q (Al z4 q (sS Z6 s4 Z2 (Rlx 1 q (WE.mv 8 10 12 (env1:=[(3, .l E3 a.1),(5, .pt 3 0),(10, .pt 6 0),(11, .pt 7 0)]) Sb q q q q Kv (Nat.zero_le _) q (Fn2 h)))))
 exact Rcx 4 q (En2 h)
 refine Rcl 3 q ?_
 obtain⟨el,b3,h⟩:=ae h
 refine Zq (fk e43 q q q b3) q (WL.s0 (cE (R:=E3) (k:=1) (i:=0) (fo:=0) (-1) q q q q Zl q q q s3 q (λ_=>q) b3 q q) (Zw q) q (Rlx 9 q ?_))
 exact WE.freezeX [117,119,2] [(6,0)] 5 _ q (an aZ _) ⟨q,q,q,Zt⟩ ⟨_,_,q,q,Zt⟩ (FA h)

theorem f17_c(b0:List al){r:List Pr2}(h:f17 b0=some r):Pu prog 17 [.sl (List.map E55 b0)] (.sl (List.map E50 r)):=by
 unfold f17 at h
 refine fI func17 λ_ _=>?_
 refine Rcl 8 q ?_
 obtain⟨a,E,h⟩:=ae h
 refine wF Z4 (f19_c _ E) Lw Z3 (Rll 6 q (WL.nil_os 4 50 2 q (Rlc 2 q ?_)))
 replace h:=ay h
 obtain⟨A,F,h⟩:=h
 refine bf (λenv' st'=>∃(m:List Pr2),∃(p:Nat),A m=some r∧Sub [(4, .os 0 p)] env'∧SLe st' [.os 50 2 p (eM R50 m)]) ?_ ?_
 refine Rcl 3 q (Zq (ab E3 a e43 q q Zl) q (Rlc 4 q (bq (λn env' st'=>∃(c:Int),∃(f:List Pr2),∃(t:Nat),f17_l1 b0 a A n c f=some r∧Sub [(0, .l E55 b0),(3, .l E3 a),(4, .os 0 t),(12, .n (List.length a:Int)),(13, .n c)] env'∧SLe st' [.os 50 2 t (eM R50 f)]) (λn=>n) (Int.toNat ((List.length a:Int) - 0)+1) ⟨0,[],_,h,(Sx q (Sx q (Sx q (Sx q (Sx q (Sub.nil _)))))),⟨Zf,Zt⟩⟩ ?_)))
 rintro n env1 st1 ⟨c,f,t,h,hsub,hst⟩
 rcases n with _|n
 rw[f17_l1] at h;cases h
 rw[f17_l1] at h
 refine WC.sub hsub (WC.weak hst ?_)
 refine Rcc 6 q (Ci h q (λh=>?_) λh=>?_)
 refine Rcc 2 q ?_
 replace h:=ay h
 obtain⟨B,G,h⟩:=h
 refine bf (λenv' st'=>∃(w:List Pr2),∃(g:Nat),B w=some r∧Sub [(0, .l E55 b0),(3, .l E3 a),(4, .os 0 g),(12, .n (List.length a:Int)),(13, .n c)] env'∧SLe st' [.os 50 2 g (eM R50 w), .z]) ?_ ?_
 refine Rcl 11 q (Ix h e36 cJ q Zl q q λT _ h=>(Rl 2 q ?_))
 obtain⟨U,H,h⟩:=ae h
 refine Gh.wl (jl 3 1) (oH [1] q q q q (f40o_c H) Lw q dC q ⟨q,Zt⟩ q q (λ_=>Kv) (λ_=>(Ro q)) (λ_=>q) (λ_=>q) (Zw q) q q λV=>?_)
 refine Rll 6 q ?_
 obtain⟨W,I,h⟩:=ae h
 refine dX [1] q q q q (f34_c _ I) Lw q dC (Ro q) ⟨q,Zt⟩ Kv q (λ_=>Kv) (λ_=>(Ro q)) (Zw q) q q (λX=>?_)
 refine Rll 5 q ?_
 obtain⟨d,J,h⟩:=ae h
 refine dX [1] q q q q (f41_c _ J) Lw q dC (Ro q) ⟨q,Zt⟩ Kv q (λ_=>q) (λ_=>(Re q)) (Zw q) q q (λY=>?_)
 refine Zq (ab E3 d e43 q q Zl) q (Rlc 4 q (bq (λna env' st'=>∃(e:Int),∃(j:List Pr2),∃(k:Nat),f17_l2 a c B d na e j=some r∧Sub [(0, .l E55 b0),(3, .l E3 a),(4, .os 0 k),(5, .n c),(12, .n (List.length a:Int)),(13, .n c),(25, .l E3 d),(26, .n (List.length d:Int)),(27, .n e)] env'∧SLe st' [.os 50 2 k (eM R50 j), .z]) (λn=>n) (Int.toNat ((List.length d:Int) - 0)+1) ⟨0,f,_,h,(Sx q (Sx q (Sx q (Sx q (Sx q (Sx q (Sx q (Sx q (Sx q (Sub.nil _)))))))))),⟨Zf,Zt,Zt⟩⟩ ?_))
 rintro na env1 st1 ⟨e,j,k,h,hsub,hst⟩
 rcases na with _|na
 rw[f17_l2] at h;cases h
 rw[f17_l2] at h
 refine WC.sub hsub (WC.weak hst ?_)
 refine Rcc 6 q (Ci h q (λh=>?_) λh=>?_)
 refine Rcc 2 q ?_
 replace h:=ay h
 obtain⟨K,L,h⟩:=h
 refine bf (λenv' st'=>∃(x:List Pr2),∃(y:Nat),K x=some r∧Sub [(0, .l E55 b0),(3, .l E3 a),(4, .os 0 y),(5, .n c),(12, .n (List.length a:Int)),(13, .n c),(25, .l E3 d),(26, .n (List.length d:Int)),(27, .n e)] env'∧SLe st' [.os 50 2 y (eM R50 x), .z]) ?_ ?_
 refine Rcl 3 q (Ix h e43 aZ q Zl q q λM _ h=>(Rll 9 q ?_))
 obtain⟨N,O,h⟩:=ae h
 refine Gg 6 33 39 N O (λh=>?_) (λh=>?_) ?_
 exact On 6 6 h
 refine Rl 2 q ?_
 obtain⟨Z,C,h⟩:=ae h
 exact Zy (aj e43 q Zl q (ai C) (av aZ C) q) q q q (On 3 6 h)
 refine Rl 1 q ?_
 obtain⟨P,Q,h⟩:=ae h
 refine Gg 5 40 45 P Q (λh=>?_) (λh=>?_) ?_
 refine Rl 3 q ?_
 obtain⟨aa,R,h⟩:=ae h
 exact WL.fn q q q q (f42_c R) Lw (Wt.yes q q q) q q (On 1 5 h)
 exact On 5 5 h
 refine Rlc 2 q (Ci h q (λh=>?_) λh=>?_)
 refine Rcl 4 q (Zq (lU xP z50 q q) q (WL.s ((NewOs.b (af l48 z50 q dC dC q q q dC)).does) (Zw q) q q ?_))
 replace h:=aT h
 obtain⟨S,h⟩:=h
 exact WL.s (bj R50 j [(Pr2.mk c M)] l48 z50 q dC q q q q (Src.own q) (λ_=>q) (λ_=>q) S) (Zw q) q q (Rlx 3 q (WE.drop 2 (env':=[(0, .l E55 b0),(3, .l E3 a),(4, .os 0 (k+1)),(5, .n c),(12, .n (List.length a:Int)),(13, .n c),(25, .l E3 d),(26, .n (List.length d:Int)),(27, .n e)]) Sb q Kv (Nat.zero_le _) (En2 h)))
 exact Rcx 2 q (En2 h)
 rintro env1 st1 ⟨x,y,h,hsub,hst⟩
 subst L
 dsimp only at h
 refine WC.sub hsub (WC.weak hst ?_)
 exact Rcx 4 q (Fn3 h)
 exact Rcx 5 q (En2 h)
 rintro env1 st1 ⟨w,g,h,hsub,hst⟩
 subst G
 dsimp only at h
 refine WC.sub hsub (WC.weak hst ?_)
 exact Rcx 4 q (WE.drop 1 (env':=[(0, .l E55 b0),(3, .l E3 a),(4, .os 0 g),(12, .n (List.length a:Int)),(13, .n (IntKind.i64.wrap (c+1)))]) Sb q Kv (Nat.zero_le _) (Fn3 h))
 exact Rcx 4 q (En2 h)
 rintro env1 st1 ⟨m,p,h,hsub,hst⟩
 subst F
 dsimp only at h
 refine WC.sub hsub (WC.weak hst ?_)
 refine Rcx 7 q ?_
 exact WE.freezeX [4,54,2] [] 0 _ q (an ro _) ⟨q,q,q,Zt⟩ Zt (FA h)

theorem f21_c(b0:List al)(c:Int){r:lI}(h:f21 b0 c=some r):Pu prog 21 [.sl (List.map E55 b0), .i .i64 c] (.sl (List.map E3 r)):=by
 unfold f21 at h
 refine fI func21 λ_ _=>?_
 refine Rcl 8 q (Zq (ab E55 b0 e36 q q Zl) q ?_)
 replace h:=aT h
 obtain⟨b2,h⟩:=h
 refine WL.s ((NewOs.b (cY l26 z43 q (Nat.succ_pos _) q q b2)).does) (Zw q) q q (Gh.wl (mu E3 0 3 1 q) (Rll 6 q ?_))
 obtain⟨a,b3,h⟩:=ae h
 refine wF Z4 (f19_c _ b3) Lw Z3 (Rlc 3 q ?_)
 replace h:=ay h
 obtain⟨a8,b4,h⟩:=h
 refine bf (λenv' st'=>∃(f:lL),∃(R:Nat),a8 f=some r∧Sub [(0, .l E55 b0),(1, .n c),(5, .os 0 0)] env'∧SLe st' [.os 43 1 0 (bZ 1 R (List.length f)), .fam 3 1 R (eO E3 f)]) ?_ ?_
 refine Rcl 3 q (Zq (ab E3 a e43 q q Zl) q (Rlc 4 q (bq (λn env' st'=>∃(e:Int),∃(B:lL),∃(S:Nat),f21_l1 b0 a a8 n e B=some r∧Sub [(0, .l E55 b0),(1, .n c),(5, .os 0 0),(6, .l E3 a),(23, .n (List.length a:Int)),(24, .n e)] env'∧SLe st' [.os 43 1 0 (bZ 1 S (List.length B)), .fam 3 1 S (eO E3 B)]) (λn=>n) (Int.toNat ((List.length a:Int) - 0)+1) ⟨0,(List.replicate (Int.toNat (List.length b0:Int)) ([]:lI)),_,h,(Sx q (Sx q (Sx q (Sx q (Sx q (Sx q (Sub.nil _))))))),⟨Zf,Zf,Zt⟩⟩ ?_)))
 rintro n env1 st1 ⟨e,B,S,h,hsub,hst⟩
 rcases n with _|n
 rw[f21_l1] at h;cases h
 rw[f21_l1] at h
 refine WC.sub hsub (WC.weak hst ?_)
 refine Rcc 6 q (Ci h q (λh=>?_) λh=>?_)
 refine Rcc 2 q ?_
 replace h:=ay h
 obtain⟨a',b5,h⟩:=h
 refine bf (λenv' st'=>∃(I:lL),∃(T:Nat),a' I=some r∧Sub [(0, .l E55 b0),(1, .n c),(5, .os 0 0),(6, .l E3 a),(23, .n (List.length a:Int)),(24, .n e)] env'∧SLe st' [.os 43 1 0 (bZ 1 T (List.length I)), .fam 3 1 T (eO E3 I)]) ?_ ?_
 refine Rcl 11 q (Ix h e36 cJ q Zl q q λk _ h=>(Rl 2 q (Zq (ab E3 k.next e43 q q Zl) q (Rlc 4 q (bq (λna env' st'=>∃(C:Int),∃(t:lL),∃(U:Nat),f21_l2 a e a' k na C t=some r∧Sub [(0, .l E55 b0),(1, .n c),(5, .os 0 0),(6, .l E3 a),(7, .n e),(23, .n (List.length a:Int)),(24, .n e),(31, .l E3 k.next),(32, .n (List.length k.next:Int)),(33, .n C)] env'∧SLe st' [.os 43 1 0 (bZ 1 U (List.length t)), .fam 3 1 U (eO E3 t)]) (λn=>n) (Int.toNat ((List.length k.next:Int) - 0)+1) ⟨0,B,_,h,(Sx q (Sx q (Sx q (Sx q (Sx q (Sx q (Sx q (Sx q (Sx q (Sx q (Sub.nil _))))))))))),⟨Zf,Zf,Zt⟩⟩ ?_)))))
 rintro na env1 st1 ⟨C,t,U,h,hsub,hst⟩
 rcases na with _|na
 rw[f21_l2] at h;cases h
 rw[f21_l2] at h
 refine WC.sub hsub (WC.weak hst ?_)
 refine Rcc 6 q (Ci h q (λh=>?_) λh=>?_)
 refine Rcc 2 q ?_
 replace h:=ay h
 obtain⟨b6,b7,h⟩:=h
 refine bf (λenv' st'=>∃(J:lL),∃(V:Nat),b6 J=some r∧Sub [(0, .l E55 b0),(1, .n c),(5, .os 0 0),(6, .l E3 a),(7, .n e),(23, .n (List.length a:Int)),(24, .n e),(31, .l E3 k.next),(32, .n (List.length k.next:Int)),(33, .n C)] env'∧SLe st' [.os 43 1 0 (bZ 1 V (List.length J)), .fam 3 1 V (eO E3 J)]) ?_ ?_
 refine Rcl 3 q (Ix h e43 aZ q Zl q q λW _ h=>(Rll 9 q ?_))
 obtain⟨b8,b9,h⟩:=ae h
 refine Gg 6 39 45 b8 b9 (λh=>?_) (λh=>?_) ?_
 exact On 6 6 h
 refine Rl 2 q ?_
 obtain⟨c8,bb,h⟩:=ae h
 exact Zy (aj e43 q Zl q (ai bb) (av aZ bb) q) q q q (On 3 6 h)
 refine Rlc 2 q (Ci h q (λh=>?_) λh=>?_)
 refine Rcl 5 q ?_
 obtain⟨X,m,h⟩:=ae h
 refine Zq (oU e26 q q q (ai m) (gX m)) q (Gh.wl (kZ (L:=t) (x:=X) (i:=W) 0 1 q q q m) (Zq (lG (i:=W) q q a43 (e9 m)) q (Rl 1 q (WL.s ((NewOs.b (af l43 z3 q dC dC q q q dC)).does) (Zw q) q q ?_))))
 replace h:=aT h
 obtain⟨b',h⟩:=h
 exact WL.s (bj E3 X [e] l43 z3 q dC q q q q (Src.own q) (λ_=>q) (λ_=>q) b') (Zw q) q q (Zq (m5 e26 q q q (ai m) (gX m)) q (WL.s0 (jQ (i:=W) (n:=List.length t) q q q q s43 (e9 m)) (Zw q) q (Rlx 1 q (j5 (k8 (L0:=t) (x':=(X++ [e])) 0 1 2 q q q q q (e9 m)) (Rxx 1 q (WE.drop 2 (env':=[(0, .l E55 b0),(1, .n c),(5, .os 0 0),(6, .l E3 a),(7, .n e),(23, .n (List.length a:Int)),(24, .n e),(31, .l E3 k.next),(32, .n (List.length k.next:Int)),(33, .n C)]) Sb q Kv (Nat.zero_le _) (En2 h)))))))
 exact Rcx 2 q (En2 h)
 rintro env1 st1 ⟨J,V,h,hsub,hst⟩
 subst b7
 dsimp only at h
 refine WC.sub hsub (WC.weak hst ?_)
 exact Rcx 4 q (Fn3 h)
 exact Rcx 5 q (En2 h)
 rintro env1 st1 ⟨I,T,h,hsub,hst⟩
 subst b5
 dsimp only at h
 refine WC.sub hsub (WC.weak hst ?_)
 exact Rcx 4 q (Fn3 h)
 exact Rcx 4 q (En2 h)
 rintro env1 st1 ⟨f,R,h,hsub,hst⟩
 subst b4
 dsimp only at h
 refine WC.sub hsub (WC.weak hst ?_)
 refine Rcc 1 q (yL (mw (E:=E3) (R':=E3) (L:=f) 0 1 aZ q q q) ?_)
 refine WC.freezeX [5] [] 0 _ q (an kO _) ⟨q,Zt⟩ Zt (Rcl 1 q (WL.s ((dG (α:=Bool) (λx:Int=>Value.int .i64 x) (λx:Bool=>AV.d (.b x))).does) (Zw q) q q (Rll 6 q (WL.nil_os 11 3 1 q (Rlc 2 q ?_)))))
 replace h:=ay h
 obtain⟨bk,ca,h⟩:=h
 refine bf (λenv' st'=>∃(K:List (Int×Bool)),∃(M:lI),∃(Y:Nat),bk K M=some r∧Sub [(0, .l E55 b0),(5, .l E43 f),(10, .mp 2),(11, .os 3 Y)] env'∧SLe st' [.z, .z,mpO (λx:Int=>Value.int .i64 x) (λx:Bool=>AV.d (.b x)) K, .os 3 1 Y (eM E3 M)]) ?_ ?_
 refine Rcl 3 q ?_
 obtain⟨g,cb,h⟩:=ae h
 refine wF Z4 (f17_c _ cb) Lw Z3 (Zq (ab E50 g e48 q q Zl) q (Rlc 4 q (bq (λn env' st'=>∃(w:Int),∃(N:List (Int×Bool)),∃(O:lI),∃(F:Nat),f21_l3 c bk g n w N O=some r∧Sub [(0, .l E55 b0),(1, .n c),(5, .l E43 f),(10, .mp 2),(11, .os 3 F),(60, .l E50 g),(61, .n (List.length g:Int)),(62, .n w)] env'∧SLe st' [.z, .z,mpO (λx:Int=>Value.int .i64 x) (λx:Bool=>AV.d (.b x)) N, .os 3 1 F (eM E3 O)]) (λn=>n) (Int.toNat ((List.length g:Int) - 0)+1) ⟨0,([]:List (Int×Bool)),[],_,h,(Sx q (Sx q (Sx q (Sx q (Sx q (Sx q (Sx q (Sx q (Sub.nil _))))))))),⟨Zt,Zt,q,Zf,Zt⟩⟩ ?_)))
 rintro n env1 st1 ⟨w,N,O,F,h,hsub,hst⟩
 rcases n with _|n
 rw[f21_l3] at h;cases h
 rw[f21_l3] at h
 refine WC.sub hsub (WC.weak hst ?_)
 refine Rcc 6 q (Ci h q (λh=>?_) λh=>?_)
 refine Rcc 2 q ?_
 replace h:=ay h
 obtain⟨cc,cd,h⟩:=h
 refine bf (λenv' st'=>∃(Z:List (Int×Bool)),∃(aa:lI),∃(ad:Nat),cc Z aa=some r∧Sub [(0, .l E55 b0),(1, .n c),(5, .l E43 f),(10, .mp 2),(11, .os 3 ad),(60, .l E50 g),(61, .n (List.length g:Int)),(62, .n w)] env'∧SLe st' [.z, .z,mpO (λx:Int=>Value.int .i64 x) (λx:Bool=>AV.d (.b x)) Z, .os 3 1 ad (eM E3 aa)]) ?_ ?_
 refine Rcl 3 q (Ix h e48 ro q Zl q q λci _ h=>(Rl 1 q (Al z50 q (sS Z6 s50 Z2 (Rll 4 q (Zq (ga xP q q dC dC) q (Rlc 5 q (Ci h q (λh=>?_) λh=>?_))))))))
 refine Rcl 4 q (WL.s0 (cZ (λx:Int=>Value.int .i64 x) (λx:Bool=>AV.d (.b x)) N (.inr q) underlying86 underlying3 (KeyF.int .i64) q q q q) (Zw q) q (Rll 4 q (Zq (ga xP q q dC dC) q (Rl 1 q (WL.s ((NewOs.b (af l43 z3 q dC dC q q q dC)).does) (Zw q) q q ?_)))))
 replace h:=aT h
 obtain⟨cj,h⟩:=h
 exact WL.s (bj E3 O [ci.e0] l43 z3 q dC q q q q (Src.own q) (λ_=>q) (λ_=>q) cj) (Zw q) q q (Rlx 3 q (WE.drop 4 (env':=[(0, .l E55 b0),(1, .n c),(5, .l E43 f),(10, .mp 2),(11, .os 3 (F+1)),(60, .l E50 g),(61, .n (List.length g:Int)),(62, .n w)]) Sb q (au q (au q (au (dF _ _ _ _) Kv))) (Nat.zero_le _) (En3 h)))
 exact Rcx 2 q (WE.drop 4 (env':=[(0, .l E55 b0),(1, .n c),(5, .l E43 f),(10, .mp 2),(11, .os 3 F),(60, .l E50 g),(61, .n (List.length g:Int)),(62, .n w)]) Sb q (au q (au q (au (dF _ _ _ _) Kv))) (Nat.zero_le _) (En3 h))
 rintro env1 st1 ⟨Z,aa,ad,h,hsub,hst⟩
 subst cd
 dsimp only at h
 refine WC.sub hsub (WC.weak hst ?_)
 exact Rcx 4 q (Fn4 h)
 exact Rcx 4 q (En3 h)
 rintro env1 st1 ⟨K,M,Y,h,hsub,hst⟩
 subst ca
 dsimp only at h
 refine WC.sub hsub (WC.weak hst ?_)
 replace h:=ay h
 obtain⟨bo,ck,h⟩:=h
 refine bf (λenv' st'=>∃(p:List (Int×Bool)),∃(y:lI),∃(G:Nat),bo p y=some r∧Sub [(0, .l E55 b0),(10, .mp 2)] env'∧SLe st' [.z, .z,mpO (λx:Int=>Value.int .i64 x) (λx:Bool=>AV.d (.b x)) p, .os 3 1 G (eM E3 y)]) ?_ ?_
 refine Rcc 1 q (bq (λn env' st'=>∃(H:List (Int×Bool)),∃(j:lI),∃(ag:Nat),f21_l4 f bo n H j=some r∧Sub [(0, .l E55 b0),(5, .l E43 f),(10, .mp 2),(11, .os 3 ag)] env'∧SLe st' [.z, .z,mpO (λx:Int=>Value.int .i64 x) (λx:Bool=>AV.d (.b x)) H, .os 3 1 ag (eM E3 j)]) (λn=>n) 9223372036854775808 ⟨K,M,_,h,(Sx q (Sx q (Sx q (Sx q (Sub.nil _))))),⟨Zt,Zt,q,Zf,Zt⟩⟩ ?_)
 rintro n env1 st1 ⟨H,j,ag,h,hsub,hst⟩
 rcases n with _|n
 rw[f21_l4] at h;cases h
 rw[f21_l4] at h
 refine WC.sub hsub (WC.weak hst ?_)
 refine Rcl 4 q (Zq (bD (aY E3) j e43 q q q) q (Rlc 3 q (Ci h q (λh=>?_) λh=>?_)))
 refine Rcl 7 q (Zq (bD (aY E3) j e43 q q q) q (Rl 1 q ?_))
 obtain⟨c',bs,h⟩:=ae h
 refine Zq (fk e43 q q q bs) q (Zq (bx (fo:=0) q q q a3 (λ_=>q) bs q) q (Rll 7 q (Zq (bD (aY E3) j e43 q q q) q (Rl 1 q ?_))))
 replace h:=aT h
 obtain⟨cl,h⟩:=h
 refine WL.s (vD E3 j (h:=(IntKind.i64.wrap ((List.length j:Int) - 1))) e43 q q ⟨_,q⟩ cl) (Zw q) q q (Rll 7 q (Zq (eC (λx:Int=>Value.int .i64 x) (λx:Bool=>AV.d (.b x)) H (z:=false) underlying86 underlying3 (KeyF.int .i64) q q q kR q) q (Rlc 3 q (Ci h q (λh=>?_) λh=>?_))))
 refine Rcl 4 q (WL.s0 (cZ (λx:Int=>Value.int .i64 x) (λx:Bool=>AV.d (.b x)) H (.inr q) underlying86 underlying3 (KeyF.int .i64) q q q q) (Zw q) q (Rll 6 q (Ix h e26 kO q Zl q q λcp _ h=>(Rl 1 q ?_))))
 replace h:=aT h
 obtain⟨cr,h⟩:=h
 exact WL.s (bj E3 (List.take (Int.toNat (IntKind.i64.wrap ((List.length j:Int) - 1))) j) cp l43 z3 q dC q q q q (fX Zl aZ λ_=>q) (λ_=>q) (λ_=>q) cr) (Zw q) q q (Rlx 3 q (Fn3 h))
 exact Rcx 2 q (Fn3 h)
 exact Rcx 4 q (En3 h)
 rintro env1 st1 ⟨p,y,G,h,hsub,hst⟩
 subst ck
 dsimp only at h
 refine WC.sub hsub (WC.weak hst ?_)
 refine Rcl 3 q (WL.nil_os 15 3 1 q (Rlc 2 q ?_))
 replace h:=ay h
 obtain⟨b1,c0,h⟩:=h
 refine bf (λenv' st'=>∃(a0:lI),∃(a1:Nat),b1 a0=some r∧Sub [(15, .os 4 a1)] env'∧SLe st' [.z, .z,mpO (λx:Int=>Value.int .i64 x) (λx:Bool=>AV.d (.b x)) p, .os 3 1 G (eM E3 y), .os 3 1 a1 (eM E3 a0)]) ?_ ?_
 refine Rcl 3 q (Zq (ab E55 b0 e36 q q Zl) q (Rlc 4 q (bq (λn env' st'=>∃(A:Int),∃(P:lI),∃(Q:Nat),f21_l5 b0 p b1 n A P=some r∧Sub [(10, .mp 2),(15, .os 4 Q),(105, .n (List.length b0:Int)),(106, .n A)] env'∧SLe st' [.z, .z,mpO (λx:Int=>Value.int .i64 x) (λx:Bool=>AV.d (.b x)) p, .os 3 1 G (eM E3 y), .os 3 1 Q (eM E3 P)]) (λn=>n) (Int.toNat ((List.length b0:Int) - 0)+1) ⟨0,[],_,h,(Sx q (Sx q (Sx q (Sx q (Sub.nil _))))),⟨Zt,Zt,q,Zf,Zf,Zt⟩⟩ ?_)))
 rintro n env1 st1 ⟨A,P,Q,h,hsub,hst⟩
 rcases n with _|n
 rw[f21_l5] at h;cases h
 rw[f21_l5] at h
 refine WC.sub hsub (WC.weak hst ?_)
 refine Rcc 6 q (Ci h q (λh=>?_) λh=>?_)
 refine Rcc 2 q ?_
 replace h:=ay h
 obtain⟨c5,c6,h⟩:=h
 refine bf (λenv' st'=>∃(a6:lI),∃(a7:Nat),c5 a6=some r∧Sub [(10, .mp 2),(15, .os 4 a7),(105, .n (List.length b0:Int)),(106, .n A)] env'∧SLe st' [.z, .z,mpO (λx:Int=>Value.int .i64 x) (λx:Bool=>AV.d (.b x)) p, .os 3 1 G (eM E3 y), .os 3 1 a7 (eM E3 a6)]) ?_ ?_
 refine Rcl 11 q (Zq (eC (λx:Int=>Value.int .i64 x) (λx:Bool=>AV.d (.b x)) p (z:=false) underlying86 underlying3 (KeyF.int .i64) q q q kR q) q (Rlc 2 q (Ci h q (λh=>?_) λh=>?_)))
 refine Rcl 3 q (WL.s ((NewOs.b (af l43 z3 q dC dC q q q dC)).does) (Zw q) q q ?_)
 replace h:=aT h
 obtain⟨c7,h⟩:=h
 exact WL.s (bj E3 P [A] l43 z3 q dC q q q q (Src.own q) (λ_=>q) (λ_=>q) c7) (Zw q) q q (Rlx 3 q (WE.drop 5 (env':=[(10, .mp 2),(15, .os 4 (Q+1)),(105, .n (List.length b0:Int)),(106, .n A)]) Sb q (au q (au q (au (dF _ _ _ _) Kv))) (Nat.zero_le _) (En2 h)))
 exact Rcx 2 q (En2 h)
 rintro env1 st1 ⟨a6,a7,h,hsub,hst⟩
 subst c6
 dsimp only at h
 refine WC.sub hsub (WC.weak hst ?_)
 exact Rcx 4 q (Fn3 h)
 exact Rcx 4 q (En2 h)
 rintro env1 st1 ⟨a0,a1,h,hsub,hst⟩
 subst c0
 dsimp only at h
 refine WC.sub hsub (WC.weak hst ?_)
 refine Rcx 7 q ?_
 exact WE.freezeX [15,117,4] [] 4 _ q (an aZ _) ⟨q,q,q,Zt⟩ Zt (FA h)

theorem f23_c(b0:List al){r:Bool}(h:f23 b0=some r):Pu prog 23 [.sl (List.map E55 b0)] (.b r):=by
 unfold f23 at h
 refine fI func23 λ_ _=>?_
 refine Rcl 9 q ?_
 obtain⟨L,C,h⟩:=ae h
 refine wF Z4 (f44_c C) Lw Z3 (Rlc 3 q (Ci h q (λh=>?_) λh=>?_))
 exact Rcx 7 q (FA h)
 refine Rcl 4 q (WL.s ((dG (α:=Bool) (λx:Int×Int=>Value.agg ⟨[Value.int .i64 x.1,Value.int .i64 x.2]⟩) (λx:Bool=>AV.d (.b x))).does) (Zw q) q q (Rlc 3 q (Jn1 (λ_=> [(0, .l E55 b0),(3, .mp 0)]) (λc=> [mpO (λx:Int×Int=>Value.agg ⟨[Value.int .i64 x.1,Value.int .i64 x.2]⟩) (λx:Bool=>AV.d (.b x)) c]) h (λE h=>?_) λc h=>?_)))
 refine Rcl 3 q ?_
 obtain⟨f,F,h⟩:=ae h
 refine wF Z4 (f17_c _ F) Lw Z3 (Zq (ab E50 f e48 q q Zl) q (Rlc 4 q (Ln2 (λm _=> [(0, .l E55 b0),(3, .mp 0),(17, .l E50 f),(18, .n (List.length f:Int)),(19, .n m)]) (λ_ p=> [mpO (λx:Int×Int=>Value.agg ⟨[Value.int .i64 x.1,Value.int .i64 x.2]⟩) (λx:Bool=>AV.d (.b x)) p]) (f23_l1 E f) h (λ_ _ h=>by rw[f23_l1] at h;cases h) λn m p h=>?_)))
 rw[f23_l1] at h
 refine Rcc 6 q (Ci h q (λh=>?_) λh=>?_)
 exact Rcl 6 q (Ix h e48 ro q Zl q q λg _ h=>(Rl 1 q (Al z50 q (sS Z6 s50 Z2 (Rll 5 q (WL.s0 (iN (λx:Int×Int=>Value.agg ⟨[Value.int .i64 x.1,Value.int .i64 x.2]⟩) (λx:Bool=>AV.d (.b x)) p (k:=(g.e0,g.e1)) (vs:=[.int .i64 g.e0, .int .i64 g.e1]) (.inr q) underlying87 (nI underlying50 underlying3 kR kR) q q q (bc (Zs _)) q q) (Zw q) q (Rlx 7 q (WE.drop 1 (env':=[(0, .l E55 b0),(3, .mp 0),(17, .l E50 f),(18, .n (List.length f:Int)),(19, .n (IntKind.i64.wrap (m+1)))]) Sb q (au (dF _ (λx:Int×Int=>Value.agg ⟨[Value.int .i64 x.1,Value.int .i64 x.2]⟩) (λx:Bool=>(.b x:D)) _) q) (Nat.zero_le _) (Fn2 h)))))))))
 exact Rcx 4 q (En1 h)
 refine Rcl 3 q ?_
 obtain⟨a,G,h⟩:=ae h
 refine wF Z4 (f45_c G) Lw Z3 (Rlc 7 q (Jn0 [] [mpO (λx:Int×Int=>Value.agg ⟨[Value.int .i64 x.1,Value.int .i64 x.2]⟩) (λx:Bool=>AV.d (.b x)) c] h (λH h=>?_) λh=>?_))
 refine Rcl 3 q (Zq (ab E3 a.2 e43 q q Zl) q (Rlc 4 q (Ln1 (λe=> [(0, .l E55 b0),(3, .mp 0),(7, .l E3 a.2),(31, .l E3 a.2),(32, .n (List.length a.2:Int)),(33, .n e)]) (λ_=> [mpO (λx:Int×Int=>Value.agg ⟨[Value.int .i64 x.1,Value.int .i64 x.2]⟩) (λx:Bool=>AV.d (.b x)) c]) (f23_l2 b0 c a H) h (λ_ h=>by rw[f23_l2] at h;cases h) λn e h=>?_)))
 rw[f23_l2] at h
 refine Rcc 6 q (Ci h q (λh=>?_) λh=>?_)
 refine Rcc 2 q (Jn0 [(0, .l E55 b0),(3, .mp 0),(7, .l E3 a.2),(31, .l E3 a.2),(32, .n (List.length a.2:Int)),(33, .n e)] [mpO (λx:Int×Int=>Value.agg ⟨[Value.int .i64 x.1,Value.int .i64 x.2]⟩) (λx:Bool=>AV.d (.b x)) c] h (λI h=>?_) λh=>?_)
 refine Rcl 4 q (Ix h e43 aZ q Zl q q λw _ h=>(Rll 9 q (Ix h e36 cJ q Zl q q λj _ h=>(Rl 2 q (Zq (ab E3 j.next e43 q q Zl) q (Rlc 4 q (Ln1 (λy=> [(0, .l E55 b0),(3, .mp 0),(7, .l E3 a.2),(8, .n e),(9, .n w),(31, .l E3 a.2),(32, .n (List.length a.2:Int)),(33, .n e),(42, .l E3 j.next),(43, .n (List.length j.next:Int)),(44, .n y)]) (λ_=> [mpO (λx:Int×Int=>Value.agg ⟨[Value.int .i64 x.1,Value.int .i64 x.2]⟩) (λx:Bool=>AV.d (.b x)) c]) (f23_l3 c a e I w j) h (λ_ h=>by rw[f23_l3] at h;cases h) λna y h=>?_)))))))
 rw[f23_l3] at h
 refine Rcc 6 q (Ci h q (λh=>?_) λh=>?_)
 refine Rcl 6 q (Ix h e43 aZ q Zl q q λA _ h=>(Rll 9 q ?_))
 obtain⟨J,K,h⟩:=ae h
 refine Gg 7 50 57 J K (λh=>?_) (λh=>?_) ?_
 refine Rl 2 q ?_
 obtain⟨M,B,h⟩:=ae h
 exact Zy (aj e43 q Zl q (ai B) (av aZ B) q) q q q (On 4 7 h)
 exact On 7 7 h
 refine Rl 1 q ?_
 apply WL.and 7 (t:=58) (d:=65)
 exact q
 intro N
 exact Rl 3 q (Zy (lU xP z50 q q) q q q (Zy (lF (λx:Int×Int=>Value.agg ⟨[Value.int .i64 x.1,Value.int .i64 x.2]⟩) (λx:Bool=>AV.d (.b x)) c (k:=(e,A)) (z:=false) (vs:=[.int .i64 e, .int .i64 A]) underlying87 (nI underlying50 underlying3 kR kR) q q q (bc (Zs _)) q kR q) q q q (Rl 2 q (WL.nil ⟨q,[_,_,_,_,_,_,_],q,q,q⟩))))
 exact Rn 7 7
 exact Rlc 2 q (Ci h q (λh=>Rcx 15 q (FA h)) λh=>Rcx 7 q (Fn1 h))
 exact Rcx 5 q (En0 h)
 exact Rcx 4 q (Fn1 h)
 exact Rcx 4 q (En0 h)
 exact Rcx 6 q (FA h)

theorem f34t_c{ver n:Nat}(l:lI){r:lI}(h:f34t l=some r)(hn:n=l.length - 1):Ctr prog 34 [.ow 0 ver 1 n 1] [.os 3 1 ver (eM E3 l)] (gy 1 (.tu []) (λ_=> [.os 3 1 ver (eM E3 r)])):=by
 unfold f34t at h
 obtain⟨h0,h⟩:=aT h
 obtain⟨h1,h⟩:=aT h
 obtain rfl:=Oi h
 exact tM ⟨Tryz.f34,func34,by kernel_rfl,by kernel_rfl⟩ (λblk off cap zs w a b c=>Go.Proofs.Any.slices_Sort_int eA blk off cap zs w a b c) (λp cap w=>Go.Proofs.Any.slices_Sort_int_none eA p cap w) (of_decide_eq_true h1) (of_decide_eq_true h0) hn

theorem f95_c{t0:bp}{o1:Obj}{r:Bool}(h:f95 t0 o1=some r):Pu prog 95 [.ag (R90 t0), .ag (mY o1)] (.b r):=by
 unfold f95 at h
 refine fI func95 λ_ _=>?_
 refine Rcl 2 q (Bd q q (Zs _) q (Bd q q (Zs _) q (Rll 10 q ?_)))
 refine OG 4 11 15 4 4 ?_
 refine Rl 1 q ?_
 refine OG 6 16 22 6 6 ?_
 refine Rlc 2 q (Ci h q (λh=>Rcx 7 q (FA h)) λh=>?_)
 refine Rcc 10 q (Ci h q (λh=>Rcl 4 q (Zq (ab E3 o1.set_ e43 q q Zl) q (Rlx 6 q (FA h)))) λh=>?_)
 refine Rcc 7 q (Jn0 [(3, .d (.pc (mY o1)))] [] h (λg h=>?_) λh=>?_)
 refine Rcl 4 q (Zq (ab E3 o1.set_ e43 q q Zl) q (Rlc 4 q (Ln2 (λa c=> [(2, .d (.pc (R90 t0))),(3, .d (.pc (mY o1))),(5, .n a),(31, .l E3 o1.set_),(32, .n (List.length o1.set_:Int)),(33, .n c)]) (λ_ _=> []) (f95_l1 t0 o1 g) h (λ_ _ h=>by rw[f95_l1] at h;cases h) λn a c h=>?_)))
 rw[f95_l1] at h
 refine Rcc 6 q (Ci h q (λh=>?_) λh=>?_)
 refine Rcl 6 q (Ix h e43 aZ q Zl q q λw _ h=>(Rll 11 q ?_))
 apply WL.or 7 (t:=40) (d:=47)
 exact q
 intro x
 exact Rl 4 q (Zy (ab cN t0.text.objs e27 q q Zl) q q q (Rl 2 q (WL.nil ⟨q,[_,_,_,_,_,_,_],q,q,q⟩)))
 exact Rn 7 7
 refine Rl 1 q ?_
 obtain⟨j,k,h⟩:=ae h
 refine Gg 9 48 57 j k (λh=>?_) (λh=>?_) ?_
 exact On 9 9 h
 refine Rl 4 q ?_
 obtain⟨y,e,h⟩:=ae h
 exact Zy (aj e27 q Zl q (ai e) (av cK e) q) q q q (On 4 9 h)
 refine Rl 1 q ?_
 obtain⟨m,p,h⟩:=ae h
 refine Gg 8 58 66 m p (λh=>?_) (λh=>?_) ?_
 exact On 8 8 h
 refine Rl 4 q ?_
 obtain⟨A,f,h⟩:=ae h
 exact Zy (aj e27 q Zl q (ai f) (av cK f) q) q q q (On 3 8 h)
 exact Rlc 2 q (Ci h q (λh=>Rcx 12 q (FA h)) λh=>Rcx 12 q (Fn2 h))
 exact Rcx 4 q (En0 h)
 refine Rcl 6 q ?_
 refine AG 4 72 76 4 4 ?_
 exact Rlx 4 q (FA h)

theorem f96_c{t0:bp}{o1:Int}{a:Int}{c:Int}{r:Bool}(h:f96 t0 o1 a c=some r):Pu prog 96 [.ag (R90 t0), .i .i64 o1, .i .i64 a, .i .i64 c] (.b r):=by
 unfold f96 at h
 refine fI func96 λ_ _=>?_
 refine Rcl 2 q (Bd q q (Zs _) q (Rll 8 q ?_))
 apply WL.and 7 (t:=11) (d:=18)
 exact q
 intro j
 exact Rl 4 q (Zy (ab cN t0.text.objs e27 q q Zl) q q q (Rl 2 q (WL.nil ⟨q,[_,_,_,_,_,_,_],q,q,q⟩)))
 exact Rn 7 7
 refine Rl 1 q ?_
 refine AG 3 19 22 3 3 ?_
 refine Rl 1 q ?_
 obtain⟨f,g,h⟩:=ae h
 refine Gg 12 23 35 f g (λh=>?_) (λh=>?_) ?_
 refine Rl 5 q ?_
 obtain⟨k,e,h⟩:=ae h
 exact Zy (aj e27 q Zl q (ai e) (av cK e) q) q q q (On 6 12 h)
 exact On 12 12 h
 exact Rlx 4 q (FA h)

theorem f135_c(n0:Int)(a:Int):Pu prog 135 [.i .i64 n0, .pc (E2 a)] (.b (f135 n0 a)):=by
 generalize h:f135 n0 a=r
 unfold f135 at h
 refine fI func135 λ_ _=>?_
 exact Rcx 15 q (FB h)

theorem f97_c{o0:Obj}{v1:Int}{r:Bool}(h:f97 o0 v1=some r):Pu prog 97 [.ag (mY o0), .i .i64 v1] (.b r):=by
 unfold f97 at h
 refine fI func97 λ_ _=>?_
 refine Rcl 2 q (Bd q q (Zs _) q (WL.s ((hZ q q (by exact(show Les [.n v1] (List.map AV.d [.i .i64 v1]) from Lw))).does) (Zw q) q q (Rlc 10 q (Ci h q (λh=>?_) λh=>?_))))
 refine Rcl 5 q ?_
 obtain⟨a,c,h⟩:=ae h
 refine Gg 5 9 14 a c (λh=>?_) (λh=>?_) ?_
 exact On 5 5 h
 refine Rl 3 q ?_
 obtain⟨f,e,h⟩:=ae h
 exact WL.fn q q q q (f79_c _ _ 135 [] [(.pc (E2 v1))] (λz0 _ h=>by obtain rfl:=inS h;exact f135_c z0 v1) e) ⟨Zl,(Le.fnc Zt Lw),Zt⟩ (Wt.yes q q q) q q (On 1 5 h)
 exact Rlx 5 q (FA h)
 refine Rcl 9 q ?_
 refine AG 5 19 24 5 5 ?_
 exact Rlx 4 q (FA h)

theorem f57_c{t0:bp}{r:Bool}(h:f57 t0=some r):Pu prog 57 [.ag (R90 t0)] (.b r):=by
 unfold f57 at h
 refine fI func57 λ_ _=>?_
 refine Rcl 2 q (Bd q q (Zs _) q (Rll 9 q (Zq (ab cN t0.text.objs e27 q q Zl) q (Rl 2 q ?_))))
 refine OG 5 15 20 5 5 ?_
 refine Rl 1 q ?_
 refine OG 5 21 26 5 5 ?_
 refine Rlc 2 q (Ci h q (λh=>Rcx 7 q (FA h)) λh=>?_)
 refine Rcc 7 q (Jn1 (λc=> [(1, .d (.pc (R90 t0))),(3, .n c)]) (λ_=> []) h (λC h=>?_) λc h=>?_)
 refine Rcl 5 q (Zq (ab cN t0.text.objs e27 q q Zl) q (Rlc 4 q (Ln2 (λf g=> [(1, .d (.pc (R90 t0))),(3, .n f),(29, .l cN t0.text.objs),(30, .n (List.length t0.text.objs:Int)),(31, .n g)]) (λ_ _=> []) (f57_l1 t0 C) h (λ_ _ h=>by rw[f57_l1] at h;cases h) λn f g h=>?_)))
 rw[f57_l1] at h
 refine Rcc 6 q (Ci h q (λh=>?_) λh=>?_)
 refine Rcl 6 q (Ix h e27 cK q Zl q q λE _ h=>(Rl 1 q (Al z119 q (sS Z6 s119 Z2 (Rll 7 q ?_)))))
 obtain⟨L,F,h⟩:=ae h
 refine wF Z4 (f95_c F) ⟨Zl,(bc (Zs _)),Zt⟩ Z3 (Rlc 3 q (Ci h q (λh=>?_) λh=>?_))
 exact Rcx 12 q (FA h)
 exact Rcx 15 q (WE.drop 0 (env':=[(1, .d (.pc (R90 t0))),(3, .n (IntKind.i64.wrap (f+E.size))),(29, .l cN t0.text.objs),(30, .n (List.length t0.text.objs:Int)),(31, .n (IntKind.i64.wrap (g+1)))]) Sb q q (Nat.zero_le _) (Fn2 h))
 exact Rcx 4 q (En1 h)
 refine Rcl 2 q (WL.s ((dG (α:=Bool) (λx:Int×Int=>Value.agg ⟨[Value.int .i64 x.1,Value.int .i64 x.2]⟩) (λx:Bool=>AV.d (.b x))).does) (Zw q) q q (Rlc 3 q (Jn1 (λ_=> [(3, .n c)]) (λw=> [mpO (λx:Int×Int=>Value.agg ⟨[Value.int .i64 x.1,Value.int .i64 x.2]⟩) (λx:Bool=>AV.d (.b x)) w]) h (λG h=>?_) λw h=>?_)))
 refine Rcl 5 q (Zq (ab dI t0.text.inits e28 q q Zl) q (Rlc 4 q (Ln2 (λj _=> [(1, .d (.pc (R90 t0))),(3, .n c),(6, .mp 0),(47, .l dI t0.text.inits),(48, .n (List.length t0.text.inits:Int)),(49, .n j)]) (λ_ e=> [mpO (λx:Int×Int=>Value.agg ⟨[Value.int .i64 x.1,Value.int .i64 x.2]⟩) (λx:Bool=>AV.d (.b x)) e]) (f57_l2 t0 G) h (λ_ _ h=>by rw[f57_l2] at h;cases h) λn j e h=>?_)))
 rw[f57_l2] at h
 refine Rcc 6 q (Ci h q (λh=>?_) λh=>?_)
 refine Rcl 6 q (Ix h e28 lA q Zl q q λa _ h=>(Rl 1 q (Al z121 q (sS Z6 s121 Z2 (Rll 8 q (Zq (ac p150 z150 q q) q (Al z150 q (sS Z6 s150 Z2 (Rlc 4 q (aD kR kR (Rq 2 q (WQ.qn (lF (λx:Int×Int=>Value.agg ⟨[Value.int .i64 x.1,Value.int .i64 x.2]⟩) (λx:Bool=>AV.d (.b x)) e (k:=(a.o,a.slot)) (z:=false) (vs:=[.int .i64 a.o, .int .i64 a.slot]) underlying148 (kM underlying150 underlying3 underlying3 q q kR) q q q (bc (Zs _)) q kR q) q (Rq 1 q ?_)))))))))))))
 obtain⟨H,y,h⟩:=ae h
 apply WQ.grp 8 (t:=61) (d:=69) (z:=H)
 exact q
 intro m
 have h:=dp y m
 refine Rq 8 q ?_
 obtain rfl:=Oi h
 exact WQ.nil ⟨[_,_,_,_,_,_,_,_],q,q,q⟩
 intro m
 have h:=dq y m
 refine Rq 5 q ?_
 obtain⟨M,I,h⟩:=ae h
 refine WQ.q (YieldsQ.fn q q q q q (f96_c I) Lw) (Wt.yes q q q) q q (Rq 2 q ?_)
 obtain rfl:=Oi h
 exact WQ.nil ⟨[_,_,_,_,_,_,_,_],q,q,q⟩
 refine Rq 1 q ?_
 obtain⟨J,A,h⟩:=ae h
 apply WQ.grp 12 (t:=70) (d:=82) (z:=J)
 exact q
 intro p
 have h:=dp A p
 refine Rq 12 q ?_
 obtain rfl:=Oi h
 exact WQ.nil ⟨[_,_,_,_,_,_,_,_,_,_,_,_],q,q,q⟩
 intro p
 have h:=dq A p
 refine Rq 5 q ?_
 obtain⟨N,B,h⟩:=ae h
 refine WQ.qy (aj e27 q Zl q (ai B) (av cK B) q) q q q (Rq 3 q ?_)
 obtain⟨O,K,h⟩:=ae h
 refine WQ.q (YieldsQ.fn q q q q q (f97_c K) Lw) (Wt.yes q q q) q q (Rq 2 q ?_)
 obtain rfl:=Oi h
 exact WQ.nil ⟨[_,_,_,_,_,_,_,_,_,_,_,_],q,q,q⟩
 refine WQ.nil (Rxc 1 q (Ci h q (λh=>?_) λh=>?_))
 exact Rcx 12 q (FA h)
 exact Rcl 5 q (WL.s0 (iN (λx:Int×Int=>Value.agg ⟨[Value.int .i64 x.1,Value.int .i64 x.2]⟩) (λx:Bool=>AV.d (.b x)) e (k:=(a.o,a.slot)) (vs:=[.int .i64 a.o, .int .i64 a.slot]) (.inr q) underlying148 (kM underlying150 underlying3 underlying3 q q kR) q q q (bc (Zs _)) q q) (Zw q) q (Rlx 7 q (WE.drop 1 (env':=[(1, .d (.pc (R90 t0))),(3, .n c),(6, .mp 0),(47, .l dI t0.text.inits),(48, .n (List.length t0.text.inits:Int)),(49, .n (IntKind.i64.wrap (j+1)))]) Sb q (au (dF _ (λx:Int×Int=>Value.agg ⟨[Value.int .i64 x.1,Value.int .i64 x.2]⟩) (λx:Bool=>(.b x:D)) _) q) (Nat.zero_le _) (Fn2 h))))
 exact Rcx 4 q (En1 h)
 exact Rcx 8 q (FA h)

theorem f98_c{t0:bp}{a1:Int}:Pu prog 98 [.ag (R90 t0), .i .i64 a1] (.b (f98 t0 a1)):=by
 generalize h:f98 t0 a1=r
 unfold f98 at h
 refine fI func98 λ_ _=>?_
 refine Rcl 2 q (Bd q q (Zs _) q (Rll 8 q ?_))
 apply WL.and 7 (t:=7) (d:=14)
 exact q
 intro a
 exact Rl 4 q (Zy (ab E64 t0.text.insns e22 q q Zl) q q q (Rl 2 q (WL.nil ⟨q,[_,_,_,_,_,_,_],q,q,q⟩)))
 exact Rn 7 7
 exact Rlx 4 q (FB h)

theorem f136_c(s0:List bG)(a:bG→oB)(g1:FuncId)(c e:lD)(g:∀(y0:bG)(r:Bool),a y0=some r→Pu prog g1 (c++ [.ag (tT y0)]++e) (.b r)){r:Int}(h:f136 s0 a=some r):Pu prog 136 [.sl (List.map jt s0), .fnc (.func g1) c e] (.i .i64 r):=by
 unfold f136 at h
 refine fI func136 λ_ _=>?_
 refine WC.cast 1 q (eZ _ _ _) (Rcc 5 q (Jn0 [] [] h (λj h=>?_) λh=>?_))
 refine Rcl 3 q (Zq (ab jt s0 e65 q q Zl) q (Rlc 4 q (Ln1 (λf=> [(0, .l jt s0),(1, .fn (.func g1) (List.map AV.d c) (List.map AV.d e)),(7, .n (List.length s0:Int)),(8, .n f)]) (λ_=> []) (f136_l1 s0 a j) h (λ_ h=>by rw[f136_l1] at h;cases h) λn f h=>?_)))
 rw[f136_l1] at h
 refine Rcc 6 q (Ci h q (λh=>?_) λh=>?_)
 refine Rcl 15 q (Ix h e65 j6 q Zl q q λm _ h=>(Rl 1 q ?_))
 obtain⟨p,k,h⟩:=ae h
 refine WL.fn q q q q (g _ _ k) (j0 Lw) (Zw q) q q (Rlc 2 q (Ci h q (λh=>?_) λh=>?_))
 exact Rcx 12 q (FA h)
 exact Rcx 7 q (Fn1 h)
 exact Rcx 4 q (En0 h)
 exact Rcx 6 q (FA h)

theorem f99_c(s0:List bG)(d:bG→oB)(g1:FuncId)(a c:lD)(e:∀(y0:bG)(r:Bool),d y0=some r→Pu prog g1 (a++ [.ag (tT y0)]++c) (.b r)){r:Bool}(h:f99 s0 d=some r):Pu prog 99 [.sl (List.map jt s0), .fnc (.func g1) a c] (.b r):=by
 unfold f99 at h
 refine fI func99 λ_ _=>?_
 refine WC.cast 1 q (eZ _ _ _) (Rcl 9 q ?_)
 obtain⟨g,f,h⟩:=ae h
 exact wF Z4 (f136_c _ _ g1 a c e f) ⟨Zl,(Le.fnc (Zs _) (Zs _)),Zt⟩ Z3 (Rlx 5 q (FA h))

theorem f137_c(o0:Int)(a:bp){r:Bool}(h:f137 o0 a=some r):Pu prog 137 [.i .i64 o0, .pc (R90 a)] (.b r):=by
 unfold f137 at h
 refine fI func137 λ_ _=>?_
 refine Rcl 10 q ?_
 apply WL.or 7 (t:=6) (d:=13)
 exact q
 intro g
 exact Rl 4 q (Zy (ab cN a.text.objs e27 q q Zl) q q q (Rl 2 q (WL.nil ⟨q,[_,_,_,_,_,_,_],q,q,q⟩)))
 exact Rn 7 7
 refine Rl 1 q ?_
 obtain⟨e,f,h⟩:=ae h
 refine Gg 9 14 23 e f (λh=>?_) (λh=>?_) ?_
 exact On 9 9 h
 refine Rl 4 q ?_
 obtain⟨j,c,h⟩:=ae h
 exact Zy (aj e27 q Zl q (ai c) (av cK c) q) q q q (On 4 9 h)
 exact Rlx 4 q (FA h)

theorem f101_c{t0:bp}{l1:lI}{r:Bool}(h:f101 t0 l1=some r):Pu prog 101 [.ag (R90 t0), .sl (List.map E3 l1)] (.b r):=by
 unfold f101 at h
 refine fI func101 λ_ _=>?_
 refine Rcl 2 q (Bd q q (Zs _) q (Rll 6 q (Zq (ab E3 l1 e43 q q Zl) q (Rl 2 q ?_))))
 obtain⟨a,c,h⟩:=ae h
 refine Gg 5 8 13 a c (λh=>?_) (λh=>?_) ?_
 refine Rl 2 q ?_
 obtain⟨e,d,h⟩:=ae h
 exact WL.fn q q q q (f79_c _ _ 137 [] [(.pc (R90 t0))] (λz0 _ h=>f137_c z0 t0 h) d) ⟨Zl,(Le.fnc Zt Lw),Zt⟩ (Wt.yes q q q) q q (On 2 5 h)
 exact On 5 5 h
 exact Rlx 4 q (FA h)

theorem f100_c(e0:bG)(a:bp){r:Bool}(h:f100 e0 a=some r):Pu prog 100 [.ag (tT e0), .pc (R90 a)] (.b r):=by
 unfold f100 at h
 refine fI func100 λ_ _=>?_
 refine Rcl 2 q (Bd q q (Zs _) q (Rll 8 q ?_))
 obtain⟨g,c,h⟩:=ae h
 refine wF Z4 (f101_c c) Lw Z3 (Rl 2 q ?_)
 obtain⟨d,e,h⟩:=ae h
 refine Gg 6 9 15 d e (λh=>?_) (λh=>?_) ?_
 exact On 6 6 h
 refine Rl 3 q ?_
 obtain⟨j,f,h⟩:=ae h
 exact WL.fn q q q q (f101_c f) Lw (Wt.yes q q q) q q (On 2 6 h)
 exact Rlx 4 q (FA h)

theorem f58_c{t0:bp}{r:Bool}(h:f58 t0=some r):Pu prog 58 [.ag (R90 t0)] (.b r):=by
 unfold f58 at h
 refine fI func58 λ_ _=>?_
 refine Rcl 2 q (Bd q q (Zs _) q (Rll 9 q (Zq (ab E67 t0.text.tasks e29 q q Zl) q (Rl 2 q ?_))))
 apply WL.or 6 (t:=10) (d:=16)
 exact q
 intro g
 exact Rl 3 q (Zy (ab E67 t0.text.tasks e29 q q Zl) q q q (Rl 2 q (WL.nil ⟨q,[_,_,_,_,_,_],q,q,q⟩)))
 exact Rn 6 6
 refine Rlc 2 q (Ci h q (λh=>Rcx 7 q (FA h)) λh=>?_)
 refine Rcc 2 q (Jn0 [] [] h (λc h=>?_) λh=>?_)
 refine Rcl 5 q (Zq (ab E67 t0.text.tasks e29 q q Zl) q (Rlc 4 q (Ln1 (λa=> [(1, .d (.pc (R90 t0))),(19, .l E67 t0.text.tasks),(20, .n (List.length t0.text.tasks:Int)),(21, .n a)]) (λ_=> []) (f58_l1 t0 c) h (λ_ h=>by rw[f58_l1] at h;cases h) λn a h=>?_)))
 rw[f58_l1] at h
 refine Rcc 6 q (Ci h q (λh=>?_) λh=>?_)
 refine Rcl 6 q (Ix h e29 kN q Zl q q λe _ h=>(Rl 1 q (Al z67 q (sS Z6 s67 Z2 (Rll 9 q ?_)))))
 refine OG 4 28 32 4 4 ?_
 refine Rl 1 q ?_
 apply WL.or 6 (t:=33) (d:=39)
 exact q
 intro j
 exact Rl 3 q (WL.fn q q q q (f98_c) Lw (Wt.yes q q q) q q (Rl 2 q (WL.nil ⟨q,[_,_,_,_,_,_],q,q,q⟩)))
 exact Rn 6 6
 refine Rl 1 q ?_
 refine OG 4 40 44 4 4 ?_
 refine Rl 1 q ?_
 refine OG 4 45 49 4 4 ?_
 refine Rl 1 q ?_
 apply WL.or 5 (t:=50) (d:=55)
 exact q
 intro k
 exact Rl 2 q (Zy (ab jt e.entries e65 q q Zl) q q q (Rl 2 q (WL.nil ⟨q,[_,_,_,_,_],q,q,q⟩)))
 exact Rn 5 5
 refine Rlc 2 q (Ci h q (λh=>Rcx 12 q (FA h)) λh=>?_)
 refine Rcl 7 q ?_
 obtain⟨m,f,h⟩:=ae h
 refine wF Z4 (f99_c _ _ 100 [] [(.pc (R90 t0))] (λz0 _ h=>f100_c z0 t0 h) f) ⟨Zl,(Le.fnc Zt Lw),Zt⟩ Z3 (Rlc 2 q (Ci h q (λh=>?_) λh=>?_))
 exact Rcx 11 q (FA h)
 exact Rcx 7 q (WE.drop 0 (env':=[(1, .d (.pc (R90 t0))),(19, .l E67 t0.text.tasks),(20, .n (List.length t0.text.tasks:Int)),(21, .n (IntKind.i64.wrap (a+1)))]) Sb q q (Nat.zero_le _) (Fn1 h))
 exact Rcx 4 q (En0 h)
 exact Rcx 6 q (FA h)

theorem f59_c{t0:bp}{r:Bool}(h:f59 t0=some r):Pu prog 59 [.ag (R90 t0)] (.b r):=by
 unfold f59 at h
 refine fI func59 λ_ _=>?_
 refine Rcl 2 q (Bd q q (Zs _) q (Rll 9 q (Zq (ab E43 t0.text.lists e26 q q Zl) q (Rlc 3 q (Ci h q (λh=>?_) λh=>?_)))))
 exact Rcx 7 q (FA h)
 refine Rcc 2 q (Jn0 [] [] h (λk h=>?_) λh=>?_)
 refine Rcl 5 q (Zq (ab E43 t0.text.lists e26 q q Zl) q (Rlc 4 q (Ln1 (λc=> [(1, .d (.pc (R90 t0))),(15, .l E43 t0.text.lists),(16, .n (List.length t0.text.lists:Int)),(17, .n c)]) (λ_=> []) (f59_l1 t0 k) h (λ_ h=>by rw[f59_l1] at h;cases h) λn c h=>?_)))
 rw[f59_l1] at h
 refine Rcc 6 q (Ci h q (λh=>?_) λh=>?_)
 refine Rcc 2 q (Jn1 (λ_=> [(1, .d (.pc (R90 t0))),(15, .l E43 t0.text.lists),(16, .n (List.length t0.text.lists:Int)),(17, .n c)]) (λf=> [mpO (λx:Int=>Value.int .i64 x) (λx:Bool=>AV.d (.b x)) f]) h (λ_ h=>?_) λf h=>?_)
 refine Rcl 3 q (Ix h e26 kO q Zl q q λa _ h=>(Rll 6 q (WL.s ((dG (α:=Bool) (λx:Int=>Value.int .i64 x) (λx:Bool=>AV.d (.b x))).does) (Zw q) q q (Rlc 3 q (Jn1 (λ_=> [(1, .d (.pc (R90 t0))),(4, .l E3 a),(15, .l E43 t0.text.lists),(16, .n (List.length t0.text.lists:Int)),(17, .n c)]) (λg=> [mpO (λx:Int=>Value.int .i64 x) (λx:Bool=>AV.d (.b x)) g]) h (λm h=>?_) λg h=>?_)))))
 refine Rcl 3 q (Zq (ab E3 a e43 q q Zl) q (Rlc 4 q (Ln2 (λj _=> [(1, .d (.pc (R90 t0))),(4, .l E3 a),(5, .mp 0),(15, .l E43 t0.text.lists),(16, .n (List.length t0.text.lists:Int)),(17, .n c),(22, .l E3 a),(23, .n (List.length a:Int)),(24, .n j)]) (λ_ e=> [mpO (λx:Int=>Value.int .i64 x) (λx:Bool=>AV.d (.b x)) e]) (f59_l2 t0 a m) h (λ_ _ h=>by rw[f59_l2] at h;cases h) λna j e h=>?_)))
 rw[f59_l2] at h
 refine Rcc 6 q (Ci h q (λh=>?_) λh=>?_)
 refine Rcl 6 q (Ix h e43 aZ q Zl q q λp _ h=>(Rll 10 q ?_))
 apply WL.or 7 (t:=30) (d:=37)
 exact q
 intro w
 exact Rl 4 q (Zy (ab E67 t0.text.tasks e29 q q Zl) q q q (Rl 2 q (WL.nil ⟨q,[_,_,_,_,_,_,_],q,q,q⟩)))
 exact Rn 7 7
 refine Rl 1 q ?_
 apply WL.or 4 (t:=38) (d:=42)
 exact q
 intro y
 exact Rl 2 q (Zy (eC (λx:Int=>Value.int .i64 x) (λx:Bool=>AV.d (.b x)) e (z:=false) underlying86 underlying3 (KeyF.int .i64) q q q kR q) q q q (Rl 1 q (WL.nil ⟨q,[_,_,_,_],q,q,q⟩)))
 exact Rn 4 4
 refine Rlc 2 q (Ci h q (λh=>Rcx 17 q (FA h)) λh=>?_)
 exact Rcl 5 q (WL.s0 (cZ (λx:Int=>Value.int .i64 x) (λx:Bool=>AV.d (.b x)) e (.inr q) underlying86 underlying3 (KeyF.int .i64) q q q q) (Zw q) q (Rlx 7 q (Fn2 h)))
 exact Rcx 4 q (En1 h)
 refine Rcl 3 q (Zq (ab E3 a e43 q q Zl) q (Rlc 3 q (Ci h q (λh=>?_) λh=>?_)))
 exact Rcx 11 q (FA h)
 exact Rcx 2 q (En1 h)
 exact Rcx 4 q (WE.drop 0 (env':=[(1, .d (.pc (R90 t0))),(15, .l E43 t0.text.lists),(16, .n (List.length t0.text.lists:Int)),(17, .n (IntKind.i64.wrap (c+1)))]) Sb q q (Nat.zero_le _) (Fn1 h))
 exact Rcx 4 q (En0 h)
 exact Rcx 6 q (FA h)

theorem f102s_c(F:lN→lH→lP→lS→lL→lO→lT→Int→lK→lM→lC→Int→Int→aL→Int→Option (Bool×lN×lH×lP×lS×lL×lO×lT×Int×lK×lM×lC×Int×Int))(e:lN)(f:lH)(g:lP)(j:lS)(k:lL)(m:lO)(p:lT)(w:Int)(x:lK)(y:lM)(A:lC)(jent:Int)(jleft:Int)(e1:aL)(B:Int)(S:∀(e:lN)(f:lH)(g:lP)(j:lS)(k:lL)(m:lO)(p:lT)(w:Int)(x:lK)(y:lM)(A:lC)(jent:Int)(jleft:Int)(x1:aL)(x2:Int)(r:Bool×lN×lH×lP×lS×lL×lO×lT×Int×lK×lM×lC×Int×Int),F e f g j k m p w x y A jent jleft x1 x2=some r→Ctr prog 102 [.pt 0 0, .d (.ag (kL x1)), .n x2] [.row 157 [.l E64 e, .l cB f, .l dA g, .l dl j, .l E43 k, .l cN m, .l dI p, .n w, .l E67 x, .l cM y, .l d2 A, .n jent, .n jleft]] (gy 1 (.b r.1) (λiv=> [.row 157 [.l E64 r.2.1, .l cB r.2.2.1, .l dA r.2.2.2.1, .l dl r.2.2.2.2.1, .l E43 r.2.2.2.2.2.1, .l cN r.2.2.2.2.2.2.1, .l dI r.2.2.2.2.2.2.2.1, .n r.2.2.2.2.2.2.2.2.1, .l E67 r.2.2.2.2.2.2.2.2.2.1, .l cM r.2.2.2.2.2.2.2.2.2.2.1, .l d2 r.2.2.2.2.2.2.2.2.2.2.2.1, .n r.2.2.2.2.2.2.2.2.2.2.2.2.1, .n r.2.2.2.2.2.2.2.2.2.2.2.2.2]]))){r:Bool×lN×lH×lP×lS×lL×lO×lT×Int×lK×lM×lC×Int×Int}(h:f102s F e f g j k m p w x y A jent jleft e1 B=some r):Ctr prog 102 [.pt 0 0, .d (.ag (kL e1)), .n B] [.row 157 [.l E64 e, .l cB f, .l dA g, .l dl j, .l E43 k, .l cN m, .l dI p, .n w, .l E67 x, .l cM y, .l d2 A, .n jent, .n jleft]] (gy 1 (.b r.1) (λiv=> [.row 157 [.l E64 r.2.1, .l cB r.2.2.1, .l dA r.2.2.2.1, .l dl r.2.2.2.2.1, .l E43 r.2.2.2.2.2.1, .l cN r.2.2.2.2.2.2.1, .l dI r.2.2.2.2.2.2.2.1, .n r.2.2.2.2.2.2.2.2.1, .l E67 r.2.2.2.2.2.2.2.2.2.1, .l cM r.2.2.2.2.2.2.2.2.2.2.1, .l d2 r.2.2.2.2.2.2.2.2.2.2.2.1, .n r.2.2.2.2.2.2.2.2.2.2.2.2.1, .n r.2.2.2.2.2.2.2.2.2.2.2.2.2]])):=by
 unfold f102s at h
 refine cI func102 λ_ _ _ hmm=>?_
 refine Rcl 2 q (Bx q q q (Bd q q (Zs _) q (WL.s ((hZ q q (by exact(show Les [.n B] (List.map AV.d [.i .i64 B]) from Lw))).does) (Zw q) q q (Rll 12 q (sS Z6 s3 Z2 (St q (Rll 6 q ?_)))))))
 obtain⟨T,U,h⟩:=ay h
 refine WL.inl (us:=[.pt 0 0, .d (.ag (kL e1))]) (λrv st'=>(∃(G:Bool),∃(H:Int),∃(a:aL),∃(c21v100:Int),∃(c22v101:Int),∃(c23v102:Int),∃(c24v103:Int),T G H a c21v100 c22v101 c23v102 c24v103=some r∧Le rv (.tu [.d (.ag (kL a)), .n H, .d (D.b G)])∧SLe st' [.row 157 [.l E64 e, .l cB f, .l dA g, .l dl j, .l E43 k, .l cN m, .l dI p, .n w, .l E67 x, .l cM y, .l d2 A, .n jent, .n (IntKind.i64.wrap (jleft - 1))], .row 155 [.pt 0 0], .row 134 [.d (D.i .u8 e1.kind), .d (D.i .u8 c21v100), .n c22v101, .n c23v102, .n c24v103, .n 0, .n 0, .n 0,sN]])) q q q q q ?_ (Zw q) q q ?_
 refine cI func138 λ_ _ _ _=>?_
 refine Rcl 2 q (Bd q q (Zs _) q (Al tW q (Rll 9 q (sS Z6 s131 Z2 (St q (Rlc 2 q (Jn5 (λI _ _ _ _=> [(4, .pt 2 0),(5, .n I)]) (λ_ c21v106 c22v107 c23v108 c24v109=> [.row 157 [.l E64 e, .l cB f, .l dA g, .l dl j, .l E43 k, .l cN m, .l dI p, .n w, .l E67 x, .l cM y, .l d2 A, .n jent, .n (IntKind.i64.wrap (jleft - 1))], .row 155 [.pt 0 0], .row 134 [.d (D.i .u8 e1.kind), .d (D.i .u8 c21v106), .n c22v107, .n c23v108, .n c24v109, .n 0, .n 0, .n 0,sN]]) h (λ_ h=>?_) λI c21v106 c22v107 c23v108 c24v109 h=>?_)))))))
 refine Rcc 13 q (Ci h q (λh=>Rcl 4 q (sS Z6 s2 Z2 (St q (Rlx 2 q (En5 h))))) λh=>?_)
 refine Rcc 6 q (Ci h q (λh=>?_) λh=>?_)
 refine Rcc 2 q (aD kR kR (Rq 8 q ?_))
 obtain⟨a7,V,h⟩:=ae h
 refine WQ.q (YieldsQ.fn q q q q q (f96_c V) ⟨(bc (Zs _)),Zl,Zl,Zl,Zt⟩) (Zw q) q q (Rq 2 q ?_)
 obtain⟨W,O,h⟩:=ae h
 apply WQ.grp 12 (t:=30) (d:=42) (z:=W)
 exact q
 intro J
 have h:=dp O J
 refine Rq 12 q ?_
 obtain rfl:=Oi h
 exact WQ.nil ⟨[_,_,_,_,_,_,_,_,_,_,_,_],q,q,q⟩
 intro J
 have h:=dq O J
 refine Rq 8 q ?_
 obtain⟨a8,P,h⟩:=ae h
 refine WQ.qy (aj e27 q Zl q (ai P) (av cK P) q) q q q (Rq 3 q ?_)
 obtain rfl:=Oi h
 exact WQ.nil ⟨[_,_,_,_,_,_,_,_,_,_,_,_],q,q,q⟩
 refine WQ.nil (Rxc 1 q (Ci h q (λh=>?_) λh=>?_))
 exact Rcl 3 q (sS Z6 lg Z2 (St q (Rlx 8 q (aG (rs3 q (dL q q xT lg q) (bR q) (bR q)) ⟨false,0,(aL.mk e1.kind 0 0 0 0 0 0 0 []),0,0,0,0,h,(Le.tu ⟨(bc ⟨Zl,Zl,Zl,Zl,Zl,Zl,Zl,Zl,Le.nil,Zt⟩),Zl,Zl,Zt⟩),⟨Zp,Zp,Zp,Zt⟩⟩))))
 refine Rcc 2 q ?_
 apply RT [_,_,_,_,_, .u,_, .u] [5,7] [[.row 157 [.l E64 e, .l cB f, .l dA g, .l dl j, .l E43 k, .l cN m, .l dI p, .n w, .l E67 x, .l cM y, .l d2 A, .n jent, .n (IntKind.i64.wrap (jleft - 1))], .row 155 [.pt 0 0], .row 134 [.d (D.i .u8 e1.kind), .d (D.i .u8 0), .n 0, .n e1.o, .n 0, .n 0, .n 0, .n 0,sN]],[.row 157 [.l E64 e, .l cB f, .l dA g, .l dl j, .l E43 k, .l cN m, .l dI p, .n w, .l E67 x, .l cM y, .l d2 A, .n jent, .n (IntKind.i64.wrap (jleft - 1))], .row 155 [.pt 0 0], .row 134 [.d (D.i .u8 e1.kind), .d (D.i .u8 0), .n 0, .n e1.o, .n e1.off, .n 0, .n 0, .n 0,sN]]] [p01 3,p10 0,u01 3,u10 2,p01 4,p20 4 1,q01 4 1,q20 6 3 1] kR kR q q
 refine Y2 ?_
 refine X2b ?_
 refine Y1 ?_
 refine zo (λ_=>sS Z6 s3 Z2 (du q q)) ?_
 refine Y1 ?_
 exact zo (λ_=>sS Z6 s3 Z2 (du q q)) Zt
 exact Rxx 1 q (En5 h)
 refine Rcc 6 q (Ci h q (λh=>?_) λh=>?_)
 refine Rcl 5 q (sS Z6 s2 Z2 (St q (Rlc 2 q (Jn1 (λK=> [(4, .pt 2 0),(5, .n 0),(6, .d (D.b K))]) (λ_=> [.row 157 [.l E64 e, .l cB f, .l dA g, .l dl j, .l E43 k, .l cN m, .l dI p, .n w, .l E67 x, .l cM y, .l d2 A, .n jent, .n (IntKind.i64.wrap (jleft - 1))], .row 155 [.pt 0 0], .row 134 [.d (D.i .u8 e1.kind), .d (D.i .u8 0), .n e1.n, .n 0, .n 0, .n 0, .n 0, .n 0,sN]]) h (λ_ h=>?_) λK h=>?_))))
 rcases nD (decide (e1.n≥0)) with C|C
 replace h:=dp h C
 apply RT [_,_,_,_,_,_,_,_,_,_,_,_,_, .u,_,_] [] [] [p01 4,p01 3,p10 1,p10 2,p10 3,p11 4 3,p20 5 4,p11 4 0,p20 7 4,p20 8 4,p20 9 4,p30 6 10 4,p20 4 11,p11 0 4,p00,p10 12] kR kR q q
 refine Y4 ?_
 refine zo (rc C) ?_
 refine Y8 ?_
 refine zo (λ_=>sS Z6 lg Z2 (du q q)) ?_
 exact Y2 Zt
 exact En1 h
 replace h:=dq h C
 apply RT [_,_,_,_,_,_,_,_,_,_,_,_,_, .u,_,_] [] [] [p01 4,p01 3,p10 1,p10 2,p10 3,p10 4,p10 4,p10 4,p10 4,p10 4,p10 4,p10 4,p20 4 11,p11 0 4,p00,p10 12] kR kR q q
 refine Y4 ?_
 refine zo (rc C) ?_
 refine Y8 ?_
 refine zo (λ_=>sS Z6 lg Z2 (du q q)) ?_
 exact Y2 Zt
 exact En1 h
 exact Rcx 3 q (aG (rs3 q (dL q q xT lg q) (bR q) (bR q)) ⟨K,0,(aL.mk e1.kind 0 e1.n 0 0 0 0 0 []),0,e1.n,0,0,h,(Le.tu ⟨(bc ⟨Zl,Zl,Zl,Zl,Zl,Zl,Zl,Zl,Le.nil,Zt⟩),Zl,Zl,Zt⟩),⟨Zp,Zp,Zp,Zt⟩⟩)
 refine Rcc 6 q (Ci h q (λh=>Rcl 2 q (sS Z6 wy Z2 (St q (Rlx 3 q (En5 h))))) λh=>?_)
 refine Rcc 6 q (Ci h q (λh=>?_) λh=>?_)
 exact Rcl 3 q (Zq (t6 q q q) q (Zq (t7 q q q) q (Rl 1 q (sS Z6 wy Z2 (St q (Rlx 3 q (En5 h)))))))
 refine Jn1 (λQ=> [(4, .pt 2 0),(78, .d (D.b Q))]) (λ_=> [.row 157 [.l E64 e, .l cB f, .l dA g, .l dl j, .l E43 k, .l cN m, .l dI p, .n w, .l E67 x, .l cM y, .l d2 A, .n jent, .n (IntKind.i64.wrap (jleft - 1))], .row 155 [.pt 0 0], .row 134 [.d (D.i .u8 e1.kind), .d (D.i .u8 0), .n 0, .n 0, .n 0, .n 0, .n 0, .n 0,sN]]) h (λ_ h=>?_) (λQ h=>?_)
 exact Rcc 6 q (Ci h q (λh=>Rcx 1 q (En1 h)) λh=>Rcx 4 q (En1 h))
 refine Ci h q (λh=>?_) (λh=>?_)
 exact Rcx 4 q (En5 h)
 exact Rcl 3 q (sS Z6 lg Z2 (St q (Rlx 7 q (aG (rs3 q (dL q q xT lg q) (bR q) (bR q)) ⟨false,0,(aL.mk e1.kind 0 0 0 0 0 0 0 []),0,0,0,0,h,(Le.tu ⟨(bc ⟨Zl,Zl,Zl,Zl,Zl,Zl,Zl,Zl,Le.nil,Zt⟩),Zl,Zl,Zt⟩),⟨Zp,Zp,Zp,Zt⟩⟩))))
 exact Rcl 4 q (sS Z6 lg Z2 (St q (Rlx 5 q (aG (rs3 q (dL q q xT lg q) (bR q) (bR q)) ⟨true,I,(aL.mk e1.kind c21v106 c22v107 c23v108 c24v109 0 0 0 []),c21v106,c22v107,c23v108,c24v109,h,(Le.tu ⟨(bc ⟨Zl,Zl,Zl,Zl,Zl,Zl,Zl,Zl,Le.nil,Zt⟩),Zl,Zl,Zt⟩),⟨Zp,Zp,Zp,Zt⟩⟩))))
 rintro rv st1 ⟨G,H,a,c21v100,c22v101,c23v102,c24v103,h,hr,hst⟩
 subst U
 dsimp only at h
 refine WL.cast 20 q hr (WL.weak hst (Rl 4 q (Al tW q (sS Z6 lg Z2 (St q (Rl 2 q (Zn (Rcl 9 q ?_))))))))
 refine OG 3 29 32 3 3 ?_
 refine Rl 1 q ?_
 refine OG 3 33 36 3 3 ?_
 refine Rl 1 q ?_
 apply WL.or 6 (t:=37) (d:=43)
 exact q
 intro a'
 exact Rl 2 q (Zy (ab dh e1.l iz q q Zl) q q q (Rl 3 q (WL.nil ⟨q,[_,_,_,_,_,_],q,q,q⟩)))
 exact Rn 6 6
 refine Rl 1 q ?_
 refine OG 6 44 50 6 6 ?_
 refine Rl 1 q ?_
 refine OG 6 51 57 6 6 ?_
 refine Rl 1 q ?_
 refine OG 6 58 64 6 6 ?_
 refine Rl 1 q ?_
 refine OG 6 65 71 6 6 ?_
 refine Rl 1 q ?_
 refine OG 4 72 76 4 4 ?_
 refine Rl 1 q ?_
 refine OG 4 77 81 4 4 ?_
 refine Rl 1 q ?_
 refine OG 4 82 86 4 4 ?_
 refine Rlc 2 q (Ci h q (λh=>?_) λh=>?_)
 refine Rcx 7 q ?_
 obtain rfl:=Oi h
 exact eD 0 (rs1 q (bR q)) Zl q ⟨Zp,Zt⟩
 refine Rcl 7 q ?_
 obtain⟨X,Y,h⟩:=ay h
 refine WL.inl (us:=[.l dh e1.l, .fn (.func 140) [] [.pt 1 0, .d (.pc (E3 B))]]) (λrv st'=>(∃(L:Bool),∃(c00v120:lN),∃(c01v121:lH),∃(c02v122:lP),∃(c03v123:lS),∃(c04v124:lL),∃(c05v125:lO),∃(c06v126:lT),∃(c07v127:Int),∃(c08v128:lK),∃(c09v129:lM),∃(c010v130:lC),∃(c011v131:Int),∃(c012v132:Int),X L c00v120 c01v121 c02v122 c03v123 c04v124 c05v125 c06v126 c07v127 c08v128 c09v129 c010v130 c011v131 c012v132=some r∧Le rv (.d (D.b L))∧SLe st' [.row 157 [.l E64 c00v120, .l cB c01v121, .l dA c02v122, .l dl c03v123, .l E43 c04v124, .l cN c05v125, .l dI c06v126, .n c07v127, .l E67 c08v128, .l cM c09v129, .l d2 c010v130, .n c011v131, .n c012v132], .row 155 [.pt 0 0], .row 134 [.d (D.i .u8 e1.kind), .d (D.i .u8 c21v100), .n c22v101, .n c23v102, .n c24v103, .n 0, .n 0, .n 0,sN], .row 134 [.d (D.i .u8 a.kind), .d (D.i .u8 a.op), .n a.n, .n a.o, .n a.off, .n a.len, .n a.lo, .n a.hi, .l dh a.l]])) q q q q q ?_ (Zw q) q q ?_
 refine cI func139 λ_ _ _ _=>?_
 refine Rcl 9 q ?_
 obtain⟨R,Z,h⟩:=ay h
 refine WL.inl (us:=[.l dh e1.l, .fn (.func 140) [] [.pt 1 0, .d (.pc (E3 B))]]) (λrv st'=>(∃(E:Int),∃(c00v136:lN),∃(c01v137:lH),∃(c02v138:lP),∃(c03v139:lS),∃(c04v140:lL),∃(c05v141:lO),∃(c06v142:lT),∃(c07v143:Int),∃(c08v144:lK),∃(c09v145:lM),∃(c010v146:lC),∃(c011v147:Int),∃(c012v148:Int),R E c00v136 c01v137 c02v138 c03v139 c04v140 c05v141 c06v142 c07v143 c08v144 c09v145 c010v146 c011v147 c012v148=some r∧Le rv (.n E)∧SLe st' [.row 157 [.l E64 c00v136, .l cB c01v137, .l dA c02v138, .l dl c03v139, .l E43 c04v140, .l cN c05v141, .l dI c06v142, .n c07v143, .l E67 c08v144, .l cM c09v145, .l d2 c010v146, .n c011v147, .n c012v148], .row 155 [.pt 0 0], .row 134 [.d (D.i .u8 e1.kind), .d (D.i .u8 c21v100), .n c22v101, .n c23v102, .n c24v103, .n 0, .n 0, .n 0,sN], .row 134 [.d (D.i .u8 a.kind), .d (D.i .u8 a.op), .n a.n, .n a.o, .n a.off, .n a.len, .n a.lo, .n a.hi, .l dh a.l]])) q q q q q ?_ (Zw q) q q ?_
 refine cI func152 λ_ _ _ _=>?_
 refine Rcc 5 q (Jn13 (λ_ _ _ _ _ _ _ _ _ _ _ _ _=> []) (λc00v150 c01v151 c02v152 c03v153 c04v154 c05v155 c06v156 c07v157 c08v158 c09v159 c010v160 c011v161 c012v162=> [.row 157 [.l E64 c00v150, .l cB c01v151, .l dA c02v152, .l dl c03v153, .l E43 c04v154, .l cN c05v155, .l dI c06v156, .n c07v157, .l E67 c08v158, .l cM c09v159, .l d2 c010v160, .n c011v161, .n c012v162], .row 155 [.pt 0 0], .row 134 [.d (D.i .u8 e1.kind), .d (D.i .u8 c21v100), .n c22v101, .n c23v102, .n c24v103, .n 0, .n 0, .n 0,sN], .row 134 [.d (D.i .u8 a.kind), .d (D.i .u8 a.op), .n a.n, .n a.o, .n a.off, .n a.len, .n a.lo, .n a.hi, .l dh a.l]]) h (λaa h=>?_) λc00v150 c01v151 c02v152 c03v153 c04v154 c05v155 c06v156 c07v157 c08v158 c09v159 c010v160 c011v161 c012v162 h=>?_)
 refine Rcl 3 q (Zq (ab dh e1.l iz q q Zl) q (Rlc 4 q (Ln14 (λM _ _ _ _ _ _ _ _ _ _ _ _ _=> [(0, .l dh e1.l),(1, .fn (.func 140) [] [.pt 1 0, .d (.pc (E3 B))]),(7, .n (List.length e1.l:Int)),(8, .n M)]) (λ_ c00v179 c01v180 c02v181 c03v182 c04v183 c05v184 c06v185 c07v186 c08v187 c09v188 c010v189 c011v190 c012v191=> [.row 157 [.l E64 c00v179, .l cB c01v180, .l dA c02v181, .l dl c03v182, .l E43 c04v183, .l cN c05v184, .l dI c06v185, .n c07v186, .l E67 c08v187, .l cM c09v188, .l d2 c010v189, .n c011v190, .n c012v191], .row 155 [.pt 0 0], .row 134 [.d (D.i .u8 e1.kind), .d (D.i .u8 c21v100), .n c22v101, .n c23v102, .n c24v103, .n 0, .n 0, .n 0,sN], .row 134 [.d (D.i .u8 a.kind), .d (D.i .u8 a.op), .n a.n, .n a.o, .n a.off, .n a.len, .n a.lo, .n a.hi, .l dh a.l]]) (f102s_l1 F e1 B R aa) h (λ_ _ _ _ _ _ _ _ _ _ _ _ _ _ h=>by rw[f102s_l1] at h;cases h) λn M c00v179 c01v180 c02v181 c03v182 c04v183 c05v184 c06v185 c07v186 c08v187 c09v188 c010v189 c011v190 c012v191 h=>?_)))
 rw[f102s_l1] at h
 refine Rcc 6 q (Ci h q (λh=>?_) λh=>?_)
 refine Rcl 15 q (Ix h iz iy q Zl q q λad _ h=>(Rl 1 q ?_))
 obtain⟨a0,a1,h⟩:=ay h
 refine WL.inl (us:=[.d (.ag (kL ad)), .pt 1 0, .d (.pc (E3 B))]) (λrv st'=>(∃(N:Bool),∃(c00v209:lN),∃(c01v210:lH),∃(c02v211:lP),∃(c03v212:lS),∃(c04v213:lL),∃(c05v214:lO),∃(c06v215:lT),∃(c07v216:Int),∃(c08v217:lK),∃(c09v218:lM),∃(c010v219:lC),∃(c011v220:Int),∃(c012v221:Int),a0 N c00v209 c01v210 c02v211 c03v212 c04v213 c05v214 c06v215 c07v216 c08v217 c09v218 c010v219 c011v220 c012v221=some r∧Le rv (.d (D.b N))∧SLe st' [.row 157 [.l E64 c00v209, .l cB c01v210, .l dA c02v211, .l dl c03v212, .l E43 c04v213, .l cN c05v214, .l dI c06v215, .n c07v216, .l E67 c08v217, .l cM c09v218, .l d2 c010v219, .n c011v220, .n c012v221], .row 155 [.pt 0 0], .row 134 [.d (D.i .u8 e1.kind), .d (D.i .u8 c21v100), .n c22v101, .n c23v102, .n c24v103, .n 0, .n 0, .n 0,sN], .row 134 [.d (D.i .u8 a.kind), .d (D.i .u8 a.op), .n a.n, .n a.o, .n a.off, .n a.len, .n a.lo, .n a.hi, .l dh a.l]])) q q q q q ?_ (Zw q) q q ?_
 refine cI func140 λ_ _ _ _=>?_
 refine Rcl 2 q (Bd q q (Zs _) q (Rll 9 q ?_))
 obtain⟨c,a6,h⟩:=ae h
 refine dX [0] q q q q (S _ _ _ _ _ _ _ _ _ _ _ _ _ _ _ _ a6) Lw q dC (Re q) ⟨q,Zt⟩ q q (λ_=>q) (λ_=>(Re q)) (Zw q) q q (λbb=>?_)
 exact Rlx 5 q (aG (rs1 q (bR q)) ⟨(!c.1),c.2.1,c.2.2.1,c.2.2.2.1,c.2.2.2.2.1,c.2.2.2.2.2.1,c.2.2.2.2.2.2.1,c.2.2.2.2.2.2.2.1,c.2.2.2.2.2.2.2.2.1,c.2.2.2.2.2.2.2.2.2.1,c.2.2.2.2.2.2.2.2.2.2.1,c.2.2.2.2.2.2.2.2.2.2.2.1,c.2.2.2.2.2.2.2.2.2.2.2.2.1,c.2.2.2.2.2.2.2.2.2.2.2.2.2,h,Zl,⟨Zp,Zp,Zp,Zp,Zt⟩⟩)
 rintro rv st1 ⟨N,c00v209,c01v210,c02v211,c03v212,c04v213,c05v214,c06v215,c07v216,c08v217,c09v218,c010v219,c011v220,c012v221,h,hr,hst⟩
 subst a1
 dsimp only at h
 refine WL.cast 16 q hr (WL.weak hst (Zn (Ci h q (λh=>?_) λh=>?_)))
 exact Rcx 12 q (aG (rs1 q (bR q)) ⟨M,c00v209,c01v210,c02v211,c03v212,c04v213,c05v214,c06v215,c07v216,c08v217,c09v218,c010v219,c011v220,c012v221,h,Zl,⟨Zp,Zp,Zp,Zp,Zt⟩⟩)
 exact Rcx 7 q (cw ⟨_,⟨_,_,_,_,_,_,_,_,_,_,_,_,_,_,h,Sb,Tv⟩,Nat.lt_succ_self _⟩)
 exact Rcx 4 q (cw ⟨_,_,_,_,_,_,_,_,_,_,_,_,_,h,Sb,Tv⟩)
 exact Rcx 6 q (aG (rs1 q (bR q)) ⟨(-1),c00v150,c01v151,c02v152,c03v153,c04v154,c05v155,c06v156,c07v157,c08v158,c09v159,c010v160,c011v161,c012v162,h,Zl,⟨Zp,Zp,Zp,Zp,Zt⟩⟩)
 rintro rv st1 ⟨E,c00v136,c01v137,c02v138,c03v139,c04v140,c05v141,c06v142,c07v143,c08v144,c09v145,c010v146,c011v147,c012v148,h,hr,hst⟩
 subst Z
 dsimp only at h
 exact WL.cast 7 q hr (WL.weak hst (Rl 2 q (Zn (Rcx 1 q (aG (rs1 q (bR q)) ⟨(decide (E≥0)),c00v136,c01v137,c02v138,c03v139,c04v140,c05v141,c06v142,c07v143,c08v144,c09v145,c010v146,c011v147,c012v148,h,Zl,⟨Zp,Zp,Zp,Zp,Zt⟩⟩)))))
 rintro rv st1 ⟨L,c00v120,c01v121,c02v122,c03v123,c04v124,c05v125,c06v126,c07v127,c08v128,c09v129,c010v130,c011v131,c012v132,h,hr,hst⟩
 subst Y
 dsimp only at h
 refine WL.cast 90 q hr (WL.weak hst (Rl 2 q (Zn (Rcx 1 q ?_))))
 obtain rfl:=Oi h
 exact eD 0 (rs1 q (bR q)) Zl q ⟨Zp,Zt⟩

theorem f102_c:∀(n:Nat)(a:lN)(c:lH)(e:lP)(f:lS)(g:lL)(j:lO)(k:lT)(m:Int)(p:lK)(t:lM)(w:lC)(jent:Int)(jleft:Int)(x1:aL)(x2:Int){r:Bool×lN×lH×lP×lS×lL×lO×lT×Int×lK×lM×lC×Int×Int},f102 n a c e f g j k m p t w jent jleft x1 x2=some r→Ctr prog 102 [.pt 0 0, .d (.ag (kL x1)), .n x2] [.row 157 [.l E64 a, .l cB c, .l dA e, .l dl f, .l E43 g, .l cN j, .l dI k, .n m, .l E67 p, .l cM t, .l d2 w, .n jent, .n jleft]] (gy 1 (.b r.1) (λiv=> [.row 157 [.l E64 r.2.1, .l cB r.2.2.1, .l dA r.2.2.2.1, .l dl r.2.2.2.2.1, .l E43 r.2.2.2.2.2.1, .l cN r.2.2.2.2.2.2.1, .l dI r.2.2.2.2.2.2.2.1, .n r.2.2.2.2.2.2.2.2.1, .l E67 r.2.2.2.2.2.2.2.2.2.1, .l cM r.2.2.2.2.2.2.2.2.2.2.1, .l d2 r.2.2.2.2.2.2.2.2.2.2.2.1, .n r.2.2.2.2.2.2.2.2.2.2.2.2.1, .n r.2.2.2.2.2.2.2.2.2.2.2.2.2]]))
 |0,_,_,_,_,_,_,_,_,_,_,_,_,_,_,_,_,h=>by cases h
 |n+1,a,c,e,f,g,j,k,m,p,t,w,jent,jleft,x1,x2,_,h=>f102s_c (f102 n) a c e f g j k m p t w jent jleft x1 x2 (λa c e f g j k m p t w jent jleft x1 x2 _ h=>f102_c n a c e f g j k m p t w jent jleft x1 x2 h) h

theorem f60_c{t0:bp}{r:Bool}(h:f60 t0=some r):Pu prog 60 [.ag (R90 t0)] (.b r):=by
 unfold f60 at h
 refine fI func60 λ_ _=>?_
 refine Rcl 2 q (Bd q q (Zs _) q (Rlc 3 q (Jn0 [(1, .d (.pc (R90 t0)))] [] h (λf h=>?_) λh=>?_)))
 refine Rcl 5 q (Zq (ab cM t0.text.prots e30 q q Zl) q (Rlc 4 q (Ln1 (λc=> [(1, .d (.pc (R90 t0))),(10, .l cM t0.text.prots),(11, .n (List.length t0.text.prots:Int)),(12, .n c)]) (λ_=> []) (f60_l1 t0 f) h (λ_ h=>by rw[f60_l1] at h;cases h) λn c h=>?_)))
 rw[f60_l1] at h
 refine Rcc 6 q (Ci h q (λh=>?_) λh=>?_)
 refine Rcc 2 q (Jn2 (λ_ _=> [(1, .d (.pc (R90 t0))),(10, .l cM t0.text.prots),(11, .n (List.length t0.text.prots:Int)),(12, .n c)]) (λc00v60 c01v61=> [.row 129 [.n c00v60, .l dh c01v61]]) h (λg h=>?_) λc00v60 c01v61 h=>?_)
 refine Rcl 3 q (Ix h e30 lz q Zl q q λa _ h=>(Rl 1 q (Al z129 q (sS Z6 s129 Z2 (Rll 9 q ?_)))))
 refine OG 4 19 23 4 4 ?_
 refine Rl 1 q ?_
 apply WL.or 5 (t:=24) (d:=29)
 exact q
 intro k
 exact Rl 2 q (Zy (ab dh a.barriers iz q q Zl) q q q (Rl 2 q (WL.nil ⟨q,[_,_,_,_,_],q,q,q⟩)))
 exact Rn 5 5
 refine Rlc 2 q (Ci h q (λh=>Rcx 12 q (FA h)) λh=>?_)
 refine Rcl 6 q (Zq (ab dh a.barriers iz q q Zl) q (Rlc 4 q (Ln1 (λe=> [(1, .d (.pc (R90 t0))),(4, .pt 0 0),(10, .l cM t0.text.prots),(11, .n (List.length t0.text.prots:Int)),(12, .n c),(31, .l dh a.barriers),(32, .n (List.length a.barriers:Int)),(33, .n e)]) (λ_=> [.row 129 [.n a.ceiling, .l dh a.barriers]]) (f60_l2 t0 g a) h (λ_ h=>by rw[f60_l2] at h;cases h) λna e h=>?_)))
 rw[f60_l2] at h
 refine Rcc 6 q (Ci h q (λh=>?_) λh=>?_)
 refine Rcl 6 q (Ix h iz iy q Zl q q λm _ h=>(Rl 1 q (Al tW q (sS Z6 lg Z2 (Rll 7 q (Zq (ab dh a.barriers iz q q Zl) q (Zq (ac p157 z157 q q) q (Bx q q q (Rll 7 q ?_)))))))))
 obtain⟨p,j,h⟩:=ae h
 refine dX [2] q q q q (f102_c 66 _ _ _ _ _ _ _ _ _ _ _ _ _ _ _ j) ⟨Zl,(bc (Zs _)),Zl,Zt⟩ q dC (Re q) ⟨q,Zt⟩ q q (λ_=>q) (λ_=>(Re q)) (Zw q) q q (λw=>?_)
 refine Rlc 3 q (Ci h q (λh=>Rcx 15 q (FA h)) λh=>?_)
 exact Rcx 7 q (WE.drop 1 (env':=[(1, .d (.pc (R90 t0))),(4, .pt 0 0),(10, .l cM t0.text.prots),(11, .n (List.length t0.text.prots:Int)),(12, .n c),(31, .l dh a.barriers),(32, .n (List.length a.barriers:Int)),(33, .n (IntKind.i64.wrap (e+1)))]) Sb q q (Nat.zero_le _) (Fn1 h))
 exact Rcx 5 q (En2 h)
 exact Rcx 4 q (WE.drop 0 (env':=[(1, .d (.pc (R90 t0))),(10, .l cM t0.text.prots),(11, .n (List.length t0.text.prots:Int)),(12, .n (IntKind.i64.wrap (c+1)))]) Sb q q (Nat.zero_le _) (Fn1 h))
 exact Rcx 4 q (En0 h)
 exact Rcl 5 q (Zq (ab cM t0.text.prots e30 q q Zl) q (Rlx 5 q (FA h)))

theorem f142_c{n0:Int}{a:bp}{c:Int}{r:Bool}(h:f142 n0 a c=some r):Pu prog 142 [.i .i64 n0, .pc (R90 a), .pc (E3 c)] (.b r):=by
 unfold f142 at h
 refine fI func142 λ_ _=>?_
 refine Rcl 10 q ?_
 obtain⟨e,d,h⟩:=ae h
 exact wF Z4 (f96_c d) Lw Z3 (Rlx 4 q (FA h))

theorem f105_c{t0:bp}{a:Int}{a2:jq}{r:Bool}(h:f105 t0 a a2=some r):Pu prog 105 [.ag (R90 t0), .i .i64 a, .ag (rm a2)] (.b r):=by
 unfold f105 at h
 refine fI func105 λ_ _=>?_
 refine Rcl 2 q (Bd q q (Zs _) q (WL.s ((hZ q q (by exact(show Les [.n a] (List.map AV.d [.i .i64 a]) from Lw))).does) (Zw q) q q (Bd q q (Zs _) q (Rll 15 q (wF Z4 (f98_c) Lw Z3 (Rl 2 q ?_))))))
 obtain⟨e,f,h⟩:=ae h
 refine Gg 11 14 25 e f (λh=>?_) (λh=>?_) ?_
 exact On 11 11 h
 refine Rl 4 q ?_
 obtain⟨g,j,h⟩:=ae h
 refine Gg 6 18 24 g j (λh=>?_) (λh=>?_) ?_
 refine Rl 3 q ?_
 obtain⟨x,k,h⟩:=ae h
 exact WL.fn q q q q (f142_c k) Lw (Wt.yes q q q) q q (On 2 6 h)
 exact On 6 6 h
 exact On 1 6 h
 refine Rlc 2 q (Ci h q (λh=>Rcx 7 q (FA h)) λh=>?_)
 refine Rcc 16 q (Ci h q (λh=>?_) λh=>?_)
 refine Rcl 6 q ?_
 refine AG 4 33 37 4 4 ?_
 refine Rl 1 q ?_
 refine AG 4 38 42 4 4 ?_
 exact Rlx 6 q (FA h)
 refine Jn1 (λc=> [(5, .d (.pc (rm a2))),(7, .fn (.func 142) [] [.d (.pc (R90 t0)), .d (.pc (E3 a))]),(43, .d (D.b c))]) (λ_=> []) h (λ_ h=>?_) (λc h=>?_)
 exact Rcc 6 q (Ci h q (λh=>Rcx 1 q (En1 h)) λh=>Rcx 4 q (En1 h))
 refine Ci h q (λh=>?_) (λh=>?_)
 refine Rcl 6 q ?_
 obtain⟨m,p,h⟩:=ae h
 refine Gg 5 49 54 m p (λh=>?_) (λh=>?_) ?_
 refine Rl 3 q ?_
 obtain⟨y,w,h⟩:=ae h
 exact WL.fn q q q q (f142_c w) Lw (Wt.yes q q q) q q (On 1 5 h)
 exact On 5 5 h
 exact Rlx 6 q (FA h)
 refine Rcl 9 q ?_
 apply WL.and 7 (t:=58) (d:=65)
 exact q
 intro A
 exact Rl 4 q (Zy (yQ q q q) q q q (Rl 2 q (WL.nil ⟨q,[_,_,_,_,_,_,_],q,q,q⟩)))
 exact Rn 7 7
 exact Rlx 4 q (FA h)

theorem f61_c{t0:bp}{r:Bool}(h:f61 t0=some r):Pu prog 61 [.ag (R90 t0)] (.b r):=by
 unfold f61 at h
 refine fI func61 λ_ _=>?_
 refine Rcl 2 q (Bd q q (Zs _) q (Rll 9 q (Zq (ab dl t0.text.selects e25 q q Zl) q (Rlc 3 q (Ci h q (λh=>?_) λh=>?_)))))
 exact Rcx 7 q (FA h)
 refine Rcc 2 q (Jn0 [] [] h (λm h=>?_) λh=>?_)
 refine Rcl 5 q (Zq (ab dl t0.text.selects e25 q q Zl) q (Rlc 4 q (Ln1 (λe=> [(1, .d (.pc (R90 t0))),(12, .l dl t0.text.selects),(13, .n (List.length t0.text.selects:Int)),(14, .n e)]) (λ_=> []) (f61_l1 t0 m) h (λ_ h=>by rw[f61_l1] at h;cases h) λn e h=>?_)))
 rw[f61_l1] at h
 refine Rcc 6 q (Ci h q (λh=>?_) λh=>?_)
 refine Rcl 6 q (Ix h e25 oR q Zl q q λa _ h=>(Rl 1 q (Al yN q (sS Z6 zf Z2 (Rll 7 q (Zq (ab d4 a.alts e99 q q Zl) q (Rl 2 q ?_)))))))
 apply WL.or 5 (t:=22) (d:=27)
 exact q
 intro G
 exact Rl 2 q (Zy (ab d4 a.alts e99 q q Zl) q q q (Rl 2 q (WL.nil ⟨q,[_,_,_,_,_],q,q,q⟩)))
 exact Rn 5 5
 refine Rl 1 q ?_
 refine OG 4 28 32 4 4 ?_
 refine Rl 1 q ?_
 apply WL.or 8 (t:=33) (d:=41)
 exact q
 intro H
 exact Rl 5 q (Zy (ab cN t0.text.objs e27 q q Zl) q q q (Rl 2 q (WL.nil ⟨q,[_,_,_,_,_,_,_,_],q,q,q⟩)))
 exact Rn 8 8
 refine Rl 1 q ?_
 apply WL.or 11 (t:=42) (d:=53)
 exact q
 intro I
 refine Rl 4 q ?_
 apply WL.and 6 (t:=46) (d:=52)
 exact q
 intro J
 exact Rl 3 q (WL.fn q q q q (f98_c) Lw (Wt.yes q q q) q q (Rl 2 q (WL.nil ⟨q,[_,_,_,_,_,_],q,q,q⟩)))
 exact Rn 6 6
 exact Rn 1 6
 exact Rn 11 11
 refine Rlc 2 q (Ci h q (λh=>Rcx 12 q (FA h)) λh=>?_)
 refine Rcl 7 q ?_
 obtain⟨p,w,h⟩:=ay h
 refine WL.inl (us:=[.l d4 a.alts, .fn (.func 104) [] [.d (.pc (R90 t0)), .pt 0 0]]) (λrv st'=>(∃(f:Bool),p f=some r∧Le rv (.d (D.b f))∧SLe st' [.row 101 [.l d4 a.alts, .n a.obj, .n a.else_]])) q q q q q ?_ (Zw q) q q ?_
 refine cI func103 λ_ _ _ _=>?_
 refine Rcl 9 q ?_
 obtain⟨k,x,h⟩:=ay h
 refine WL.inl (us:=[.l d4 a.alts, .fn (.func 104) [] [.d (.pc (R90 t0)), .pt 0 0]]) (λrv st'=>(∃(c:Int),k c=some r∧Le rv (.n c)∧SLe st' [.row 101 [.l d4 a.alts, .n a.obj, .n a.else_]])) q q q q q ?_ (Zw q) q q ?_
 refine cI func141 λ_ _ _ _=>?_
 refine Rcc 5 q (Jn0 [] [.row 101 [.l d4 a.alts, .n a.obj, .n a.else_]] h (λy h=>?_) λh=>?_)
 refine Rcl 3 q (Zq (ab d4 a.alts e99 q q Zl) q (Rlc 4 q (Ln1 (λg=> [(0, .l d4 a.alts),(1, .fn (.func 104) [] [.d (.pc (R90 t0)), .pt 0 0]),(7, .n (List.length a.alts:Int)),(8, .n g)]) (λ_=> [.row 101 [.l d4 a.alts, .n a.obj, .n a.else_]]) (f61_l2 t0 a k y) h (λ_ h=>by rw[f61_l2] at h;cases h) λna g h=>?_)))
 rw[f61_l2] at h
 refine Rcc 6 q (Ci h q (λh=>?_) λh=>?_)
 refine Rcl 15 q (Ix h e99 oQ q Zl q q λA _ h=>(Rl 1 q ?_))
 obtain⟨B,C,h⟩:=ay h
 refine WL.inl (us:=[.d (.ag (rm A)), .d (.pc (R90 t0)), .pt 0 0]) (λrv st'=>(∃(j:Bool),B j=some r∧Le rv (.d (D.b j))∧SLe st' [.row 101 [.l d4 a.alts, .n a.obj, .n a.else_]])) q q q q q ?_ (Zw q) q q ?_
 refine cI func104 λ_ _ _ K=>?_
 refine Rcl 2 q (Bd q q (Zs _) q (Rll 9 q ?_))
 obtain⟨E,F,h⟩:=ae h
 exact wF Z4 (f105_c F) Lw Z3 (Rlx 5 q (aG (rs1 q (bR q)) ⟨(!E),h,Zl,⟨Zp,Zt⟩⟩))
 rintro rv st1 ⟨j,h,hr,hst⟩
 subst C
 dsimp only at h
 refine WL.cast 16 q hr (WL.weak hst (Zn (Ci h q (λh=>?_) λh=>?_)))
 exact Rcx 12 q (aG (rs1 q (bR q)) ⟨g,h,Zl,⟨Zp,Zt⟩⟩)
 exact Rcx 7 q (Fn1 h)
 exact Rcx 4 q (En0 h)
 exact Rcx 6 q (aG (rs1 q (bR q)) ⟨(-1),h,Zl,⟨Zp,Zt⟩⟩)
 rintro rv st1 ⟨c,h,hr,hst⟩
 subst x
 dsimp only at h
 exact WL.cast 7 q hr (WL.weak hst (Rl 2 q (Zn (Rcx 1 q (aG (rs1 q (bR q)) ⟨(decide (c≥0)),h,Zl,⟨Zp,Zt⟩⟩)))))
 rintro rv st1 ⟨f,h,hr,hst⟩
 subst w
 dsimp only at h
 refine WL.cast 57 q hr (WL.weak hst (Zn (Ci h q (λh=>?_) λh=>?_)))
 exact Rcx 11 q (FA h)
 exact Rcx 7 q (WE.drop 0 (env':=[(1, .d (.pc (R90 t0))),(12, .l dl t0.text.selects),(13, .n (List.length t0.text.selects:Int)),(14, .n (IntKind.i64.wrap (e+1)))]) Sb q q (Nat.zero_le _) (Fn1 h))
 exact Rcx 4 q (En0 h)
 exact Rcx 6 q (FA h)

theorem f106_c{h0:aQ}{a1:Int}:Pu prog 106 [.ag (wa h0), .i .i64 a1] (.b (f106 h0 a1)):=by
 generalize h:f106 h0 a1=r
 unfold f106 at h
 refine fI func106 λ_ _=>?_
 refine Rcl 2 q (Bd q q (Zs _) q (Rll 10 q ?_))
 refine AG 5 9 14 5 5 ?_
 exact Rlx 4 q (FB h)

theorem f62_c{t0:bp}{r:Bool}(h:f62 t0=some r):Pu prog 62 [.ag (R90 t0)] (.b r):=by
 unfold f62 at h
 refine fI func62 λ_ _=>?_
 refine Rcl 2 q (Bd q q (Zs _) q (Rll 9 q (Zq (ab cB t0.text.handlers e23 q q Zl) q (Rlc 3 q (Ci h q (λh=>?_) λh=>?_)))))
 exact Rcx 7 q (FA h)
 refine Rcc 2 q (Jn0 [] [] h (λf h=>?_) λh=>?_)
 refine Rcl 5 q (Zq (ab cB t0.text.handlers e23 q q Zl) q (Rlc 4 q (Ln1 (λa=> [(1, .d (.pc (R90 t0))),(15, .l cB t0.text.handlers),(16, .n (List.length t0.text.handlers:Int)),(17, .n a)]) (λ_=> []) (f62_l1 t0 f) h (λ_ h=>by rw[f62_l1] at h;cases h) λn a h=>?_)))
 rw[f62_l1] at h
 refine Rcc 6 q (Ci h q (λh=>?_) λh=>?_)
 refine Rcc 2 q (Jn4 (λ_ _ _ _=> [(1, .d (.pc (R90 t0))),(15, .l cB t0.text.handlers),(16, .n (List.length t0.text.handlers:Int)),(17, .n a)]) (λc00v99 c01v100 c02v101 c03v102=> [.row 140 [.n c00v99, .n c01v100, .n c02v101, .d (D.b c03v102)]]) h (λg h=>?_) λc00v99 c01v100 c02v101 c03v102 h=>?_)
 refine Rcl 4 q (Ix h e23 iw q Zl q q λc _ h=>(Rl 1 q (Al wi q (Rl 1 q (sS Z6 wx Z2 (Rll 9 q ?_))))))
 refine OG 6 25 31 6 6 ?_
 refine Rl 1 q ?_
 apply WL.or 8 (t:=32) (d:=40)
 exact q
 intro k
 exact Rl 5 q (Zy (ab E64 t0.text.insns e22 q q Zl) q q q (Rl 2 q (WL.nil ⟨q,[_,_,_,_,_,_,_,_],q,q,q⟩)))
 exact Rn 8 8
 refine Rl 1 q ?_
 apply WL.or 6 (t:=41) (d:=47)
 exact q
 intro m
 exact Rl 3 q (WL.fn q q q q (f98_c) Lw (Wt.yes q q q) q q (Rl 2 q (WL.nil ⟨q,[_,_,_,_,_,_],q,q,q⟩)))
 exact Rn 6 6
 refine Rl 1 q ?_
 apply WL.or 5 (t:=48) (d:=53)
 exact q
 intro p
 exact Rl 3 q (WL.fn q q q q (f106_c) ⟨(bc (Zs _)),Zl,Zt⟩ (Wt.yes q q q) q q (Rl 1 q (WL.nil ⟨q,[_,_,_,_,_],q,q,q⟩)))
 exact Rn 5 5
 refine Rlc 2 q (Ci h q (λh=>Rcx 12 q (FA h)) λh=>?_)
 refine Rcl 8 q ?_
 replace h:=aT h
 obtain⟨j,h⟩:=h
 refine Zq (oT cB t0.text.handlers (l:=0) (h:=a) e23 q Zl q ⟨_,q⟩ j λ_=>q) q (Zq (ab cB (cR t0.text.handlers 0 a) e23 q q Zl) q (Rlc 4 q (Ln1 (λe=> [(1, .d (.pc (R90 t0))),(4, .pt 0 0),(15, .l cB t0.text.handlers),(16, .n (List.length t0.text.handlers:Int)),(17, .n a),(58, .l cB (cR t0.text.handlers 0 a)),(59, .n (List.length (cR t0.text.handlers 0 a):Int)),(60, .n e)]) (λ_=> [.row 140 [.n c.from_, .n c.to, .n c.at_, .d (D.b c.clean)]]) (f62_l2 t0 a g c) h (λ_ h=>by rw[f62_l2] at h;cases h) λna e h=>?_)))
 rw[f62_l2] at h
 refine Rcc 6 q (Ci h q (λh=>?_) λh=>?_)
 refine Rcl 6 q (Ix h e23 iw q Zl q q λw _ h=>(Rl 1 q (Al wi q (sS Z6 wx Z2 (Rll 10 q ?_)))))
 refine AG 6 69 75 6 6 ?_
 refine Rll 8 q ?_
 apply WL.and 12 (t:=78) (d:=90)
 exact q
 intro x
 exact Rl 4 q (Zy (t7 q q q) q q q (Rl 4 q (Zy (t6 q q q) q q q (Rl 2 q (WL.nil ⟨q,[_,_,_,_,_,_,_,_,_,_,_,_],q,q,q⟩)))))
 exact Rn 12 12
 refine Rlc 2 q (Ci h q (λh=>Rcx 15 q (FA h)) λh=>?_)
 exact Rcx 7 q (WE.drop 1 (env':=[(1, .d (.pc (R90 t0))),(4, .pt 0 0),(15, .l cB t0.text.handlers),(16, .n (List.length t0.text.handlers:Int)),(17, .n a),(58, .l cB (cR t0.text.handlers 0 a)),(59, .n (List.length (cR t0.text.handlers 0 a):Int)),(60, .n (IntKind.i64.wrap (e+1)))]) Sb q q (Nat.zero_le _) (Fn1 h))
 exact Rcx 5 q (En4 h)
 exact Rcx 4 q (WE.drop 0 (env':=[(1, .d (.pc (R90 t0))),(15, .l cB t0.text.handlers),(16, .n (List.length t0.text.handlers:Int)),(17, .n (IntKind.i64.wrap (a+1)))]) Sb q q (Nat.zero_le _) (Fn1 h))
 exact Rcx 4 q (En0 h)
 exact Rcx 6 q (FA h)

theorem f107_c{x0:aR}{a:Int}:Pu prog 107 [.ag (R64 x0), .i .i64 a] (.b (f107 x0 a)):=by
 generalize h:f107 x0 a=r
 unfold f107 at h
 refine fI func107 λ_ _=>?_
 refine Rcl 2 q (Bd q q (Zs _) q (Rll 9 q ?_))
 refine OG 4 8 12 4 4 ?_
 refine Rl 1 q ?_
 refine OG 4 13 17 4 4 ?_
 refine Rl 1 q ?_
 refine AG 5 18 23 5 5 ?_
 exact Rlx 4 q (FB h)

theorem f63_c{t0:bp}{r:Bool}(h:f63 t0=some r):Pu prog 63 [.ag (R90 t0)] (.b r):=by
 unfold f63 at h
 refine fI func63 λ_ _=>?_
 refine Rcl 2 q (Bd q q (Zs _) q (Rll 9 q (Zq (ab dA t0.text.loops e24 q q Zl) q (Rlc 3 q (Ci h q (λh=>?_) λh=>?_)))))
 exact Rcx 7 q (FA h)
 refine Rcl 4 q (WL.s ((dG (α:=Bool) (λx:Int=>Value.int .i64 x) (λx:Bool=>AV.d (.b x))).does) (Zw q) q q (Rlc 3 q (Jn1 (λ_=> []) (λf=> [mpO (λx:Int=>Value.int .i64 x) (λx:Bool=>AV.d (.b x)) f]) h (λk h=>?_) λf h=>?_)))
 refine Rcl 5 q (Zq (ab dA t0.text.loops e24 q q Zl) q (Rlc 4 q (Ln2 (λc _=> [(1, .d (.pc (R90 t0))),(3, .mp 0),(14, .l dA t0.text.loops),(15, .n (List.length t0.text.loops:Int)),(16, .n c)]) (λ_ a=> [mpO (λx:Int=>Value.int .i64 x) (λx:Bool=>AV.d (.b x)) a]) (f63_l1 t0 k) h (λ_ _ h=>by rw[f63_l1] at h;cases h) λn c a h=>?_)))
 rw[f63_l1] at h
 refine Rcc 6 q (Ci h q (λh=>?_) λh=>?_)
 refine Rcl 6 q (Ix h e24 oO q Zl q q λp _ h=>(Rl 1 q (Al z142 q (sS Z6 s142 Z2 (Rlc 4 q (aD kR kR (Rq 4 q ?_)))))))
 apply WQ.or 6 (t:=23) (d:=29)
 exact q
 intro w
 exact Rq 6 q (WQ.nil ⟨[_,_,_,_,_,_],q,q,q⟩)
 exact Rq 6 q (WQ.nil ⟨[_,_,_,_,_,_],q,q,q⟩)
 refine Rq 1 q ?_
 apply WQ.or 6 (t:=30) (d:=36)
 exact q
 intro y
 exact Rq 3 q (WQ.q (YieldsQ.fn q q q q q (f98_c) Lw) (Wt.yes q q q) q q (Rq 2 q (WQ.nil ⟨[_,_,_,_,_,_],q,q,q⟩)))
 exact Rq 6 q (WQ.nil ⟨[_,_,_,_,_,_],q,q,q⟩)
 refine Rq 1 q ?_
 apply WQ.or 5 (t:=37) (d:=42)
 exact q
 intro A
 exact Rq 3 q (WQ.qy (eC (λx:Int=>Value.int .i64 x) (λx:Bool=>AV.d (.b x)) a (z:=false) underlying86 underlying3 (KeyF.int .i64) q q q kR q) q q q (Rq 1 q (WQ.nil ⟨[_,_,_,_,_],q,q,q⟩)))
 exact Rq 5 q (WQ.nil ⟨[_,_,_,_,_],q,q,q⟩)
 refine Rq 1 q ?_
 obtain⟨m,g,h⟩:=ae h
 apply WQ.grp 12 (t:=43) (d:=55) (z:=m)
 exact q
 intro e
 have h:=dp g e
 refine Rq 12 q ?_
 obtain rfl:=Oi h
 exact WQ.nil ⟨[_,_,_,_,_,_,_,_,_,_,_,_],q,q,q⟩
 intro e
 have h:=dq g e
 refine Rq 5 q ?_
 obtain⟨B,j,h⟩:=ae h
 refine WQ.qy (aj e22 q Zl q (ai j) (av ef j) q) q q q (Rq 3 q (WQ.q (YieldsQ.fn q q q q q (f107_c) Lw) (Wt.yes q q q) q q (Rq 2 q ?_)))
 obtain rfl:=Oi h
 exact WQ.nil ⟨[_,_,_,_,_,_,_,_,_,_,_,_],q,q,q⟩
 refine Rq 1 q ?_
 apply WQ.or 4 (t:=56) (d:=60)
 exact q
 intro C
 exact Rq 4 q (WQ.nil ⟨[_,_,_,_],q,q,q⟩)
 exact Rq 4 q (WQ.nil ⟨[_,_,_,_],q,q,q⟩)
 refine Rq 1 q ?_
 apply WQ.or 4 (t:=61) (d:=65)
 exact q
 intro E
 exact Rq 4 q (WQ.nil ⟨[_,_,_,_],q,q,q⟩)
 exact Rq 4 q (WQ.nil ⟨[_,_,_,_],q,q,q⟩)
 refine WQ.nil (Rxc 1 q (Ci h q (λh=>?_) λh=>?_))
 exact Rcx 12 q (FA h)
 exact Rcl 6 q (WL.s0 (cZ (λx:Int=>Value.int .i64 x) (λx:Bool=>AV.d (.b x)) a (.inr q) underlying86 underlying3 (KeyF.int .i64) q q q q) (Zw q) q (Rlx 7 q (WE.drop 1 (env':=[(1, .d (.pc (R90 t0))),(3, .mp 0),(14, .l dA t0.text.loops),(15, .n (List.length t0.text.loops:Int)),(16, .n (IntKind.i64.wrap (c+1)))]) Sb q (au (dF _ _ _ _) q) (Nat.zero_le _) (Fn2 h))))
 exact Rcx 4 q (En1 h)
 exact Rcx 6 q (FA h)

theorem f108_c{t0:bp}{a1:Int}{r:Bool}(h:f108 t0 a1=some r):Pu prog 108 [.ag (R90 t0), .i .i64 a1] (.b r):=by
 unfold f108 at h
 refine fI func108 λ_ _=>?_
 refine Rcl 2 q (Bd q q (Zs _) q (Rll 7 q (wF Z4 (f98_c) Lw Z3 (Rl 1 q ?_))))
 obtain⟨d,e,h⟩:=ae h
 refine Gg 19 8 27 d e (λh=>?_) (λh=>?_) ?_
 refine Rl 4 q ?_
 obtain⟨j,a,h⟩:=ae h
 refine Zy (aj e22 q Zl q (ai a) (av ef a) q) q q q (Rl 4 q ?_)
 obtain⟨f,g,h⟩:=ae h
 refine Gg 9 17 26 f g (λh=>?_) (λh=>?_) ?_
 exact On 9 9 h
 refine Rl 4 q ?_
 obtain⟨k,c,h⟩:=ae h
 exact Zy (aj e22 q Zl q (ai c) (av ef c) q) q q q (On 4 9 h)
 exact On 1 11 h
 exact On 19 19 h
 exact Rlx 4 q (FA h)

theorem f64_c{t0:bp}{r:Bool}(h:f64 t0=some r):Pu prog 64 [.ag (R90 t0)] (.b r):=by
 unfold f64 at h
 refine fI func64 λ_ _=>?_
 refine Rcl 2 q (Bd q q (Zs _) q (Rlc 8 q (Jn0 [] [] h (λe h=>?_) λh=>?_)))
 refine Rcl 5 q (Zq (ab d2 t0.text.checks e31 q q Zl) q (Rlc 4 q (Ln2 (λc a=> [(1, .d (.pc (R90 t0))),(3, .n c),(8, .l d2 t0.text.checks),(9, .n (List.length t0.text.checks:Int)),(10, .n a)]) (λ_ _=> []) (f64_l1 t0 e) h (λ_ _ h=>by rw[f64_l1] at h;cases h) λn c a h=>?_)))
 rw[f64_l1] at h
 refine Rcc 6 q (Ci h q (λh=>?_) λh=>?_)
 refine Rcl 6 q (Ix h e31 oP q Zl q q λf _ h=>(Rl 1 q (Al z137 q (sS Z6 s137 Z2 (Rll 10 q ?_)))))
 obtain⟨g,j,h⟩:=ae h
 refine Gg 6 18 24 g j (λh=>?_) (λh=>?_) ?_
 exact On 6 6 h
 refine Rl 3 q ?_
 obtain⟨m,k,h⟩:=ae h
 exact WL.fn q q q q (f108_c k) Lw (Wt.yes q q q) q q (On 2 6 h)
 refine Rl 1 q ?_
 refine OG 4 25 29 4 4 ?_
 refine Rl 1 q ?_
 refine OG 4 30 34 4 4 ?_
 refine Rlc 2 q (Ci h q (λh=>Rcx 12 q (FA h)) λh=>?_)
 exact Rcx 13 q (WE.drop 0 (env':=[(1, .d (.pc (R90 t0))),(3, .n f.at_),(8, .l d2 t0.text.checks),(9, .n (List.length t0.text.checks:Int)),(10, .n (IntKind.i64.wrap (a+1)))]) Sb q q (Nat.zero_le _) (Fn2 h))
 exact Rcx 4 q (En0 h)
 exact Rcx 6 q (FA h)

theorem f109_c(s0:lN)(a:aR→oB)(g1:FuncId)(c e:lD)(g:∀(y0:aR)(r:Bool),a y0=some r→Pu prog g1 (c++ [.ag (R64 y0)]++e) (.b r)){r:Int}(h:f109 s0 a=some r):Pu prog 109 [.sl (List.map E64 s0), .fnc (.func g1) c e] (.i .i64 r):=by
 unfold f109 at h
 refine fI func109 λ_ _=>?_
 refine WC.cast 1 q (eZ _ _ _) (Rcc 5 q (Jn0 [] [] h (λj h=>?_) λh=>?_))
 refine Rcl 3 q (Zq (ab E64 s0 e22 q q Zl) q (Rlc 4 q (Ln1 (λf=> [(0, .l E64 s0),(1, .fn (.func g1) (List.map AV.d c) (List.map AV.d e)),(7, .n (List.length s0:Int)),(8, .n f)]) (λ_=> []) (f109_l1 s0 a j) h (λ_ h=>by rw[f109_l1] at h;cases h) λn f h=>?_)))
 rw[f109_l1] at h
 refine Rcc 6 q (Ci h q (λh=>?_) λh=>?_)
 refine Rcl 15 q (Ix h e22 ef q Zl q q λm _ h=>(Rl 1 q ?_))
 obtain⟨p,k,h⟩:=ae h
 refine WL.fn q q q q (g _ _ k) (j0 Lw) (Zw q) q q (Rlc 2 q (Ci h q (λh=>?_) λh=>?_))
 exact Rcx 12 q (FA h)
 exact Rcx 7 q (Fn1 h)
 exact Rcx 4 q (En0 h)
 exact Rcx 6 q (FA h)

theorem f65_c(s0:lN)(d:aR→oB)(g1:FuncId)(a c:lD)(e:∀(y0:aR)(r:Bool),d y0=some r→Pu prog g1 (a++ [.ag (R64 y0)]++c) (.b r)){r:Bool}(h:f65 s0 d=some r):Pu prog 65 [.sl (List.map E64 s0), .fnc (.func g1) a c] (.b r):=by
 unfold f65 at h
 refine fI func65 λ_ _=>?_
 refine WC.cast 1 q (eZ _ _ _) (Rcl 9 q ?_)
 obtain⟨g,f,h⟩:=ae h
 exact wF Z4 (f109_c _ _ g1 a c e f) ⟨Zl,(Le.fnc (Zs _) (Zs _)),Zt⟩ Z3 (Rlx 5 q (FA h))

theorem f143_c{o0:Int}{r:ic×Bool}(h:f143 o0=some r):Pu prog 143 [.i .u8 o0] (.tu [.ag (Az r.1), .b r.2]):=by
 unfold f143 at h
 refine fI func143 λ_ _=>?_
 refine Rcl 2 q (Al wh q (Rll 9 q ?_))
 refine OG 4 6 10 4 4 ?_
 refine Rlc 2 q (Ci h q (λh=>?_) λh=>?_)
 refine Rcl 2 q (Zq (ac p204 wh q q) q (sS Z6 ti Z2 (Rlx 5 q ?_)))
 obtain rfl:=Oi h
 exact bm (rs2 q (dL q q a204 ti q) (bR q)) (eP ⟨(bc (Zs _)),Zl,Zt⟩)
 refine Rcl 6 q ?_
 obtain⟨c,a,h⟩:=ae h
 refine Zq (yO (R:=Az) jM (λ_=>q) ar225 (congrArg (Option.map λps=>AV.d (.pc ps)) oh) q q a) q (Rl 1 q (sS Z6 ti Z2 (Rlx 4 q ?_)))
 obtain rfl:=Oi h
 exact bm (rs2 q (dL q q a204 ti q) (bR q)) (eP ⟨(bc (Zs _)),Zl,Zt⟩)

theorem f154_c{s0:ByteArray}{r:List ByteArray}(h:f154 s0=some r):Pu prog 154 [.s s0] (.sl (List.map E9 r)):=by
 unfold f154 at h
 refine fI func154 λ_ _=>?_
 refine Rcc 20 q (Jn2 (λc setBits109=> [(0, .d (D.s s0)),(3, .n c),(5, .d (D.i .u8 setBits109))]) (λ_ _=> []) h (λJ h=>?_) λc setBits109 h=>?_)
 refine Rcc 6 q (Ln4 (λt wasSpace116 setBits117 w=> [(0, .d (D.s s0)),(3, .n t),(4, .n wasSpace116),(5, .d (D.i .u8 setBits117)),(6, .n w)]) (λ_ _ _ _=> []) (f154_l1 s0 J) h (λ_ _ _ _ h=>by rw[f154_l1] at h;cases h) λn t wasSpace116 setBits117 w h=>?_)
 rw[f154_l1] at h
 refine Rcl 5 q (Zq (e8 underlying9 q q) q (Rlc 3 q (Ci h q (λh=>?_) λh=>?_)))
 refine Rcl 8 q ?_
 obtain⟨a7,K,h⟩:=ae h
 refine Zq (cL underlying9 q q K) q (Rll 7 q (Zq (yQ q q q) q (Rll 6 q ?_)))
 obtain⟨a8,L,h⟩:=ae h
 exact Zq (rt (E:=D.i .u8) dt sI q q q L) q (Rll 10 q (Zq (y_com q q) q (Zq (o3 q q q) q (Rlx 15 q (Fn4 h)))))
 exact Rcx 4 q (En2 h)
 refine Rcc 7 q (Ci h q (λh=>?_) λh=>?_)
 refine Rcc 1 q ?_
 cases h
 refine Rcl 5 q ?_
 replace h:=aT h
 obtain⟨M,h⟩:=h
 refine WL.s ((NewOs.b (NewOs.cast (cY l227 z9 q (Nat.succ_pos _) q q M) (by exact dO (R:=E9) (z:=(ByteArray.empty:ByteArray)) q))).does) (Zw q) q q (Rlc 18 q (Jn1 (λx=> [(0, .d (D.s s0)),(9, .os 0 0),(10, .n 0),(12, .n x)]) (λ_=> [.os 9 1 0 (eM E9 (List.replicate (Int.toNat c) (ByteArray.empty:ByteArray)))]) h (λN h=>?_) λx h=>?_))
 refine Rcc 1 q (Ln1 (λy=> [(0, .d (D.s s0)),(9, .os 0 0),(10, .n 0),(12, .n y)]) (λ_=> [.os 9 1 0 (eM E9 (List.replicate (Int.toNat c) (ByteArray.empty:ByteArray)))]) (f154_l2 s0 N) h (λ_ h=>by rw[f154_l2] at h;cases h) λn y h=>?_)
 rw[f154_l2] at h
 refine Rcl 5 q (Zq (e8 underlying9 q q) q (Rl 2 q ?_))
 obtain⟨O,P,h⟩:=ae h
 refine Gg 7 46 53 O P (λh=>?_) (λh=>?_) ?_
 refine Rl 2 q ?_
 obtain⟨a',Q,h⟩:=ae h
 refine Zy (cL underlying9 q q Q) q q q ?_
 obtain⟨bb,S,h⟩:=ae h
 exact Zy (rt (E:=D.i .u8) dt sI q q q S) q q q (On 3 7 h)
 exact On 7 7 h
 exact Rlc 2 q (Ci h q (λh=>Rcx 9 q (Fn1 h)) λh=>Rcx 4 q (En1 h))
 refine Rcc 6 q (Jn3 (λf fieldStart135 _=> [(0, .d (D.s s0)),(9, .os 0 0),(10, .n f),(11, .n fieldStart135)]) (λ_ _ A=> [.os 9 1 0 (eM E9 A)]) h (λT h=>?_) λf fieldStart135 A h=>?_)
 refine Rcc 1 q (Ln4 (λa fieldStart143 B _=> [(0, .d (D.s s0)),(9, .os 0 0),(10, .n a),(11, .n fieldStart143),(12, .n B)]) (λ_ _ _ e=> [.os 9 1 0 (eM E9 e)]) (f154_l3 s0 T) h (λ_ _ _ _ h=>by rw[f154_l3] at h;cases h) λn a fieldStart143 B e h=>?_)
 rw[f154_l3] at h
 refine Rcl 5 q (Zq (e8 underlying9 q q) q (Rlc 3 q (Ci h q (λh=>?_) λh=>?_)))
 refine Rcc 2 q ?_
 replace h:=ay h
 obtain⟨U,V,h⟩:=h
 refine rx (λenv' st'=>∃(g:Int),∃(fieldStart151:Int),∃(j:Int),∃(m:List ByteArray),U g fieldStart151 j m=some r∧Sub [(0, .d (D.s s0)),(9, .os 0 0),(10, .n g),(11, .n fieldStart151),(12, .n j)] env'∧SLe st' [.os 9 1 0 (eM E9 m)]) ?_ ?_
 refine Rcl 6 q ?_
 obtain⟨bk,W,h⟩:=ae h
 refine Zq (cL underlying9 q q W) q ?_
 obtain⟨bo,X,h⟩:=ae h
 refine Zq (rt (E:=D.i .u8) dt sI q q q X) q (Rlc 4 q (Ci h q (λh=>?_) λh=>?_))
 exact Rcx 10 q (En4 h)
 refine Rcl 9 q ?_
 obtain⟨p,Y,h⟩:=ae h
 refine Zq (yP underlying9 q q q Y) q ?_
 obtain⟨bs,C,h⟩:=ae h
 refine Zq (fk xE q q q C) q (WL.s0 (cE (R:=E9) (k:=1) (i:=a) (fo:=0) p q q q q Zl q q q s9 q (λ_=>q) C q q) (Zw q) q (Rlc 16 q (Jn1 (λF=> [(0, .d (D.s s0)),(9, .os 0 0),(10, .n (IntKind.i64.wrap (a+1))),(12, .n F)]) (λ_=> [.os 9 1 0 (eM E9 (List.set e (Int.toNat a) p))]) h (λZ h=>?_) λF h=>?_)))
 refine Rcc 1 q (Ln1 (λG=> [(0, .d (D.s s0)),(9, .os 0 0),(10, .n (IntKind.i64.wrap (a+1))),(12, .n G)]) (λ_=> [.os 9 1 0 (eM E9 (List.set e (Int.toNat a) p))]) (f154_l4 s0 Z) h (λ_ h=>by rw[f154_l4] at h;cases h) λna G h=>?_)
 rw[f154_l4] at h
 refine Rcl 5 q (Zq (e8 underlying9 q q) q (Rl 2 q ?_))
 obtain⟨aa,ad,h⟩:=ae h
 refine Gg 7 84 91 aa ad (λh=>?_) (λh=>?_) ?_
 refine Rl 2 q ?_
 obtain⟨b0,ag,h⟩:=ae h
 refine Zy (cL underlying9 q q ag) q q q ?_
 obtain⟨b1,a0,h⟩:=ae h
 exact Zy (rt (E:=D.i .u8) dt sI q q q a0) q q q (On 3 7 h)
 exact On 7 7 h
 exact Rlc 2 q (Ci h q (λh=>Rcx 9 q (Fn1 h)) λh=>Rcx 4 q (En1 h))
 exact Rcx 5 q (En4 h)
 rintro env1 st1 ⟨g,fieldStart151,j,m,h,hsub,hst⟩
 subst V
 dsimp only at h
 refine WE.sub hsub (WE.weak hst ?_)
 exact Fn4 h
 exact Rcx 4 q (En3 h)
 refine Jn1 (λ_=> [(9, .os 0 0)]) (λH=> [.os 9 1 0 (eM E9 H)]) h (λ_ h=>?_) (λH h=>?_)
 refine Rcl 4 q (Zq (e8 underlying9 q q) q (Rlc 3 q (Ci h q (λh=>?_) λh=>?_)))
 refine Rcl 5 q ?_
 obtain⟨a1,a6,h⟩:=ae h
 refine Zq (wm underlying9 q q a6) q ?_
 obtain⟨b2,I,h⟩:=ae h
 exact Zq (fk xE q q q I) q (WL.s0 (cE (R:=E9) (k:=1) (i:=f) (fo:=0) a1 q q q q Zl q q q s9 q (λ_=>q) I q q) (Zw q) q (Rlx 1 q (En1 h)))
 exact Rcx 1 q (En1 h)
 refine Rcx 7 q ?_
 exact WE.freezeX [9,105,2] [] 0 _ q (an yM _) ⟨q,q,q,Zt⟩ Zt (FA h)

theorem f157_c{a:Int}:Pu prog 157 [.i .u8 a] (.tu [.i .i64 (f157 a).1, .i .i64 (f157 a).2]):=by
 generalize h:f157 a=r
 unfold f157 at h
 refine fI func157 λ_ _=>?_
 refine Rcc 19 q (Ci h q (λh=>Rcx 9 q (FB h)) λh=>?_)
 refine Rcc 6 q (Ci h q (λh=>Rcx 9 q (FB h)) λh=>?_)
 refine Rcc 6 q (Ci h q (λh=>Rcx 9 q (FB h)) λh=>?_)
 refine Rcc 6 q (Ci h q (λh=>Rcx 9 q (FB h)) λh=>?_)
 refine Rcc 6 q (Ci h q (λh=>Rcx 9 q (FB h)) λh=>?_)
 refine Rcc 6 q (Ci h q (λh=>Rcx 9 q (FB h)) λh=>?_)
 refine Rcc 6 q (Ci h q (λh=>Rcx 9 q (FB h)) λh=>?_)
 refine Rcc 6 q (Ci h q (λh=>Rcx 9 q (FB h)) λh=>?_)
 refine Rcc 6 q (Ci h q (λh=>Rcx 9 q (FB h)) λh=>?_)
 refine Rcc 6 q (Ci h q (λh=>Rcx 9 q (FB h)) λh=>?_)
 refine Rcc 6 q (Ci h q (λh=>Rcx 9 q (FB h)) λh=>?_)
 exact Rcc 6 q (Ci h q (λh=>Rcx 9 q (FB h)) λh=>Rcx 10 q (FB h))

theorem f110_c{x0:aR}{r:Bool}(h:f110 x0=some r):Pu prog 110 [.ag (R64 x0)] (.b r):=by
 unfold f110 at h
 refine fI func110 λ_ _=>?_
 refine Rcl 2 q (Bd q q (Zs _) q (Al z4 q (Rll 7 q ?_)))
 obtain⟨c,R,h⟩:=ae h
 refine wF Z4 (f143_c R) Lw Z3 (Rl 3 q (Al wh q (sS Z6 ti Z2 (Rll 8 q ?_))))
 apply WL.or 11 (t:=16) (d:=27)
 exact q
 intro fz
 refine Rl 4 q ?_
 refine AG 6 20 26 6 6 ?_
 exact Rn 1 6
 exact Rn 11 11
 refine Rlc 2 q (Ci h q (λh=>?_) λh=>?_)
 refine Rcl 2 q (sS Z6 s4 Z2 (Rlx 4 q ?_))
 obtain rfl:=Oi h
 exact bm (rs1 q (lh q q a4 q)) Zl
 refine Rcl 9 q ?_
 refine AG 5 31 36 5 5 ?_
 refine Rl 1 q ?_
 refine AG 4 37 41 4 4 ?_
 refine Rlc 2 q (Ci h q (λh=>?_) λh=>?_)
 refine Rcl 2 q (sS Z6 s4 Z2 (Rlx 4 q ?_))
 obtain rfl:=Oi h
 exact bm (rs1 q (lh q q a4 q)) Zl
 refine Rcl 5 q (Al z64 q (sS Z6 s64 Z2 (Rlc 2 q (Jn8 (λ_ _ _ _ _ _ _ _=> [(1, .d (.pc (R64 x0))),(2, .pt 0 0),(5, .pt 2 0)]) (λc21v69 c22v70 c23v71 c24v72 c25v73 c26v74 c50v75 c51v76=> [.row 4 [.d (D.b false)], .row 204 [.d (D.s c.1.name), .d (D.s c.1.fields)], .row 64 [.d (D.i .u8 x0.op), .n c21v69, .n c22v70, .n c23v71, .n c24v72, .n c25v73, .n c26v74], .row 211 [.pt 2 0], .z, .row 204 [.d (D.s c50v75), .d (D.s c51v76)]]) h (λ_ h=>?_) λc21v69 c22v70 c23v71 c24v72 c25v73 c26v74 c50v75 c51v76 h=>?_))))
 refine Rcl 2 q ?_
 obtain⟨S,T,h⟩:=ay h
 refine WL.inl (us:=[.pt 2 0]) (λrv st'=>(S ()=some r∧Le rv (.fn (.func 153) [] [.pt 3 0])∧SLe st' [.row 4 [.d (D.b false)], .row 204 [.d (D.s c.1.name), .d (D.s c.1.fields)], .row 64 [.d (D.i .u8 x0.op), .n x0.d, .n x0.a, .n x0.b, .n x0.n, .n x0.m, .n x0.to], .row 211 [.pt 2 0]])) q q q q q ?_ (Zw q) q q ?_
 refine cI func144 λ_ _ _ _=>?_
 exact Rcl 2 q (Bx q q q (Rlx 10 q (aG (rs1 q (bR q)) ⟨h,Zl,⟨Zp,Zp,Zp,Zp,Zt⟩⟩)))
 rintro rv st1 ⟨h,hr,hst⟩
 subst T
 dsimp only at h
 refine WL.cast 43 q hr (WL.weak hst (Zn (Rcc 1 q ?_)))
 obtain⟨K,U,h⟩:=ay h
 obtain⟨L,V,h⟩:=ay h
 obtain⟨M,W,h⟩:=ay h
 obtain⟨N,X,h⟩:=ay h
 obtain⟨O,Y,h⟩:=ay h
 obtain⟨P,Z,h⟩:=ay h
 obtain⟨Q,aa,h⟩:=ay h
 refine o5 (us:=[.yl 4, .pt 3 0]) [2] 4 (λf rv st'=>(∃(c21v81:Int),∃(c22v82:Int),∃(c23v83:Int),∃(c24v84:Int),∃(c25v85:Int),∃(c26v86:Int),∃(c50v87:ByteArray),∃(c51v88:ByteArray),∃(c62v89:Int),∃(c63v90:Int),∃(c92v91:Int),∃(c93v92:Int),K c21v81 c22v82 c23v83 c24v84 c25v85 c26v86 c50v87 c51v88 c62v89 c63v90 c92v91 c93v92=some r∧SLe st' [.row 4 [.d (D.b false)], .row 204 [.d (D.s c.1.name), .d (D.s c.1.fields)], .row 64 [.d (D.i .u8 x0.op), .n c21v81, .n c22v82, .n c23v83, .n c24v84, .n c25v85, .n c26v86], .row 211 [.pt 2 0], .lp f [.pt 0 0] .done (some .ret), .row 204 [.d (D.s c50v87), .d (D.s c51v88)], .row 215 [.fn (.func 161) [] [.pt 7 0], .fn (.func 162) [] [.pt 7 0], .n c62v89, .n c63v90], .row 220 [.pt 2 1], .row 215 [.fn (.func 161) [] [.pt 7 0], .fn (.func 162) [] [.pt 7 0], .n 0, .n 0], .row 215 [.fn (.func 161) [] [.pt 7 0], .fn (.func 162) [] [.pt 7 0], .n c92v91, .n c93v92]])∨(∃(c21v94:Int),∃(c22v95:Int),∃(c23v96:Int),∃(c24v97:Int),∃(c25v98:Int),∃(c26v99:Int),∃(c50v100:ByteArray),∃(c51v101:ByteArray),∃(c62v102:Int),∃(c63v103:Int),∃(c92v104:Int),∃(c93v105:Int),L c21v94 c22v95 c23v96 c24v97 c25v98 c26v99 c50v100 c51v101 c62v102 c63v103 c92v104 c93v105=some r∧SLe st' [.row 4 [.d (D.b false)], .row 204 [.d (D.s c.1.name), .d (D.s c.1.fields)], .row 64 [.d (D.i .u8 x0.op), .n c21v94, .n c22v95, .n c23v96, .n c24v97, .n c25v98, .n c26v99], .row 211 [.pt 2 0], .lp f [.pt 0 0] .done (some .ret), .row 204 [.d (D.s c50v100), .d (D.s c51v101)], .row 215 [.fn (.func 161) [] [.pt 7 0], .fn (.func 162) [] [.pt 7 0], .n c62v102, .n c63v103], .row 220 [.pt 2 2], .row 215 [.fn (.func 161) [] [.pt 7 0], .fn (.func 162) [] [.pt 7 0], .n 0, .n 0], .row 215 [.fn (.func 161) [] [.pt 7 0], .fn (.func 162) [] [.pt 7 0], .n c92v104, .n c93v105]])∨(∃(c21v107:Int),∃(c22v108:Int),∃(c23v109:Int),∃(c24v110:Int),∃(c25v111:Int),∃(c26v112:Int),∃(c50v113:ByteArray),∃(c51v114:ByteArray),∃(c62v115:Int),∃(c63v116:Int),∃(c92v117:Int),∃(c93v118:Int),M c21v107 c22v108 c23v109 c24v110 c25v111 c26v112 c50v113 c51v114 c62v115 c63v116 c92v117 c93v118=some r∧SLe st' [.row 4 [.d (D.b false)], .row 204 [.d (D.s c.1.name), .d (D.s c.1.fields)], .row 64 [.d (D.i .u8 x0.op), .n c21v107, .n c22v108, .n c23v109, .n c24v110, .n c25v111, .n c26v112], .row 211 [.pt 2 0], .lp f [.pt 0 0] .done (some .ret), .row 204 [.d (D.s c50v113), .d (D.s c51v114)], .row 215 [.fn (.func 161) [] [.pt 7 0], .fn (.func 162) [] [.pt 7 0], .n c62v115, .n c63v116], .row 220 [.pt 2 3], .row 215 [.fn (.func 161) [] [.pt 7 0], .fn (.func 162) [] [.pt 7 0], .n 0, .n 0], .row 215 [.fn (.func 161) [] [.pt 7 0], .fn (.func 162) [] [.pt 7 0], .n c92v117, .n c93v118]])∨(∃(c21v120:Int),∃(c22v121:Int),∃(c23v122:Int),∃(c24v123:Int),∃(c25v124:Int),∃(c26v125:Int),∃(c50v126:ByteArray),∃(c51v127:ByteArray),∃(c62v128:Int),∃(c63v129:Int),∃(c92v130:Int),∃(c93v131:Int),N c21v120 c22v121 c23v122 c24v123 c25v124 c26v125 c50v126 c51v127 c62v128 c63v129 c92v130 c93v131=some r∧SLe st' [.row 4 [.d (D.b false)], .row 204 [.d (D.s c.1.name), .d (D.s c.1.fields)], .row 64 [.d (D.i .u8 x0.op), .n c21v120, .n c22v121, .n c23v122, .n c24v123, .n c25v124, .n c26v125], .row 211 [.pt 2 0], .lp f [.pt 0 0] .done (some .ret), .row 204 [.d (D.s c50v126), .d (D.s c51v127)], .row 215 [.fn (.func 163) [] [.pt 7 0], .fn (.func 164) [] [.pt 7 0], .n c62v128, .n c63v129], .row 231 [.pt 2 4], .row 215 [.fn (.func 163) [] [.pt 7 0], .fn (.func 164) [] [.pt 7 0], .n 0, .n 0], .row 215 [.fn (.func 163) [] [.pt 7 0], .fn (.func 164) [] [.pt 7 0], .n c92v130, .n c93v131]])∨(∃(c21v133:Int),∃(c22v134:Int),∃(c23v135:Int),∃(c24v136:Int),∃(c25v137:Int),∃(c26v138:Int),∃(c50v139:ByteArray),∃(c51v140:ByteArray),∃(c62v141:Int),∃(c63v142:Int),∃(c92v143:Int),∃(c93v144:Int),O c21v133 c22v134 c23v135 c24v136 c25v137 c26v138 c50v139 c51v140 c62v141 c63v142 c92v143 c93v144=some r∧SLe st' [.row 4 [.d (D.b false)], .row 204 [.d (D.s c.1.name), .d (D.s c.1.fields)], .row 64 [.d (D.i .u8 x0.op), .n c21v133, .n c22v134, .n c23v135, .n c24v136, .n c25v137, .n c26v138], .row 211 [.pt 2 0], .lp f [.pt 0 0] .done (some .ret), .row 204 [.d (D.s c50v139), .d (D.s c51v140)], .row 215 [.fn (.func 163) [] [.pt 7 0], .fn (.func 164) [] [.pt 7 0], .n c62v141, .n c63v142], .row 231 [.pt 2 5], .row 215 [.fn (.func 163) [] [.pt 7 0], .fn (.func 164) [] [.pt 7 0], .n 0, .n 0], .row 215 [.fn (.func 163) [] [.pt 7 0], .fn (.func 164) [] [.pt 7 0], .n c92v143, .n c93v144]])∨(∃(c21v146:Int),∃(c22v147:Int),∃(c23v148:Int),∃(c24v149:Int),∃(c25v150:Int),∃(c26v151:Int),∃(c50v152:ByteArray),∃(c51v153:ByteArray),∃(c62v154:Int),∃(c63v155:Int),∃(c92v156:Int),∃(c93v157:Int),P c21v146 c22v147 c23v148 c24v149 c25v150 c26v151 c50v152 c51v153 c62v154 c63v155 c92v156 c93v157=some r∧SLe st' [.row 4 [.d (D.b false)], .row 204 [.d (D.s c.1.name), .d (D.s c.1.fields)], .row 64 [.d (D.i .u8 x0.op), .n c21v146, .n c22v147, .n c23v148, .n c24v149, .n c25v150, .n c26v151], .row 211 [.pt 2 0], .lp f [.pt 0 0] .done (some .ret), .row 204 [.d (D.s c50v152), .d (D.s c51v153)], .row 215 [.fn (.func 161) [] [.pt 7 0], .fn (.func 162) [] [.pt 7 0], .n c62v154, .n c63v155], .row 220 [.pt 2 6], .row 215 [.fn (.func 161) [] [.pt 7 0], .fn (.func 162) [] [.pt 7 0], .n 0, .n 0], .row 215 [.fn (.func 161) [] [.pt 7 0], .fn (.func 162) [] [.pt 7 0], .n c92v156, .n c93v157]])∨(∃(c21v159:Int),∃(c22v160:Int),∃(c23v161:Int),∃(c24v162:Int),∃(c25v163:Int),∃(c26v164:Int),∃(c50v165:ByteArray),∃(c51v166:ByteArray),Q c21v159 c22v160 c23v161 c24v162 c25v163 c26v164 c50v165 c51v166=some r∧SLe st' [.row 4 [.d (D.b false)], .row 204 [.d (D.s c.1.name), .d (D.s c.1.fields)], .row 64 [.d (D.i .u8 x0.op), .n c21v159, .n c22v160, .n c23v161, .n c24v162, .n c25v163, .n c26v164], .row 211 [.pt 2 0], .lp f [.pt 0 0] .ready none, .row 204 [.d (D.s c50v165), .d (D.s c51v166)]])) q q q q q (λf B=>?_) ?_
 refine cI func153 λ_ _ _ C=>?_
 refine Rcl 6 q ?_
 obtain⟨e,ad,h⟩:=ae h
 refine wF Z4 (f143_c ad) Lw Z3 (Rl 3 q (Al wh q (sS Z6 ti Z2 (Rll 7 q ?_))))
 obtain⟨y,a0,h⟩:=ae h
 refine wF Z4 (f154_c a0) Lw Z3 (Zq (ab E9 y xE q q Zl) q (Rlc 4 q (Ln7 (λA _ _ _ _ _ _=> [(0, .yl 4),(1, .pt 3 0),(18, .l E9 y),(19, .n (List.length y:Int)),(20, .n A)]) (λ_ c21v178 c22v179 c23v180 c24v181 c25v182 c26v183=> [.row 4 [.d (D.b false)], .row 204 [.d (D.s c.1.name), .d (D.s c.1.fields)], .row 64 [.d (D.i .u8 x0.op), .n c21v178, .n c22v179, .n c23v180, .n c24v181, .n c25v182, .n c26v183], .row 211 [.pt 2 0], .lp f [.pt 0 0] .ready none, .row 204 [.d (D.s e.1.name), .d (D.s e.1.fields)]]) (f110_l1 K L M N O P Q e y) h (λ_ _ _ _ _ _ _ h=>by rw[f110_l1] at h;cases h) λn A c21v178 c22v179 c23v180 c24v181 c25v182 c26v183 h=>?_)))
 rw[f110_l1] at h
 refine Rcc 6 q (Ci h q (λh=>?_) λh=>?_)
 refine Rcl 6 q (Ix h xE yM q Zl q q λf0 _ h=>(Rll 6 q (Al f' q (Rll 6 q ?_))))
 obtain⟨f1,a1,h⟩:=ae h
 refine Zq (cL underlying9 q q a1) q (Rlc 9 q (Ci h q (λh=>?_) λh=>?_))
 refine Rcl 4 q ?_
 obtain⟨a6,a7,h⟩:=ay h
 refine WL.inl (us:=[.pt 2 1]) (λrv st'=>(a6 ()=some r∧Le rv (.ag [.fn (.func 161) [] [.pt 7 0], .fn (.func 162) [] [.pt 7 0], .n 0, .n 0])∧SLe st' [.row 4 [.d (D.b false)], .row 204 [.d (D.s c.1.name), .d (D.s c.1.fields)], .row 64 [.d (D.i .u8 x0.op), .n c21v178, .n c22v179, .n c23v180, .n c24v181, .n c25v182, .n c26v183], .row 211 [.pt 2 0], .lp f [.pt 0 0] .ready none, .row 204 [.d (D.s e.1.name), .d (D.s e.1.fields)], .row 215 [.d (.v .nilFunc), .d (.v .nilFunc), .n 0, .n 0], .row 220 [.pt 2 1], .row 215 [.fn (.func 161) [] [.pt 7 0], .fn (.func 162) [] [.pt 7 0], .n 0, .n 0]])) q q q q q ?_ (Zw q) q q ?_
 refine cI func155 λ_ _ _ _=>?_
 exact Rcl 2 q (Bx q q q (Al f' q (Rll 6 q (Zq (ac tt f' q q) q (sS Z6 eU Z2 (Rlx 3 q (aG (rs1 q (dL q q tS eU q)) ⟨h,Zl,⟨Zp,Zp,Zp,Zp,⟨q,Zs _,q,q⟩,Zp,Zp,Zp,Zp,Zt⟩⟩)))))))
 rintro rv st1 ⟨h,hr,hst⟩
 subst a7
 dsimp only at h
 refine WL.cast 35 q hr (WL.weak hst (sS Z6 eU Z2 (WL.nil (Rxl 5 q ?_))))
 obtain⟨g,a8,h⟩:=ae h
 refine Zq (cL underlying9 q q a8) q (wF Z4 (f157_c) Lw Z3 (Rl 4 q (sS Z6 s2 Z2 (Rl 1 q (sS Z6 s2 Z2 (Rll 6 q ?_))))))
 obtain⟨a',bb,h⟩:=ay h
 obtain⟨bk,bo,h⟩:=ay h
 refine WL.yield (env0:=[(44, .ag [.fn (.func 161) [] [.pt 7 0], .fn (.func 162) [] [.pt 7 0], .n ((f157 g).1), .n ((f157 g).2)]),(2, .pt 0 0)]) (λrv st'=>(a' ()=some r∧rv= .d (.v (.bool false))∧SLe st' [.row 4 [.d (D.b false)], .row 204 [.d (D.s c.1.name), .d (D.s c.1.fields)], .row 64 [.d (D.i .u8 x0.op), .n c21v178, .n c22v179, .n c23v180, .n c24v181, .n c25v182, .n c26v183], .row 211 [.pt 2 0], .lp f [.pt 0 0] .done (some .ret), .row 204 [.d (D.s e.1.name), .d (D.s e.1.fields)], .row 215 [.fn (.func 161) [] [.pt 7 0], .fn (.func 162) [] [.pt 7 0], .n ((f157 g).1), .n ((f157 g).2)], .row 220 [.pt 2 1], .row 215 [.fn (.func 161) [] [.pt 7 0], .fn (.func 162) [] [.pt 7 0], .n 0, .n 0], .row 215 [.fn (.func 161) [] [.pt 7 0], .fn (.func 162) [] [.pt 7 0], .n ((f157 g).1), .n ((f157 g).2)]])∨(bk ()=some r∧rv= .d (.v (.bool true))∧SLe st' [.row 4 [.d (D.b false)], .row 204 [.d (D.s c.1.name), .d (D.s c.1.fields)], .row 64 [.d (D.i .u8 x0.op), .n 0, .n c22v179, .n c23v180, .n c24v181, .n c25v182, .n c26v183], .row 211 [.pt 2 0], .lp f [.pt 0 0] .ready none, .row 204 [.d (D.s e.1.name), .d (D.s e.1.fields)], .row 215 [.fn (.func 161) [] [.pt 7 0], .fn (.func 162) [] [.pt 7 0], .n ((f157 g).1), .n ((f157 g).2)], .row 220 [.pt 2 1], .row 215 [.fn (.func 161) [] [.pt 7 0], .fn (.func 162) [] [.pt 7 0], .n 0, .n 0], .row 215 [.fn (.func 161) [] [.pt 7 0], .fn (.func 162) [] [.pt 7 0], .n ((f157 g).1), .n ((f157 g).2)]])) B q q q q q q q (λee hn E f2=>?_) (Zw q) q q ?_
 obtain⟨em,eφ,ew,en,er⟩:=ee
 subst hn
 refine Rcl 1 q (Al f' q (sS Z6 eU Z2 (Rlx 1 q (gE E q (Rcl 6 q ?_)))))
 obtain⟨bs,b0,h⟩:=ay h
 refine WL.inl (us:=[.pt 7 0]) (λrv st'=>(bs ()=some r∧Le rv (.n c21v178)∧SLe st' [.row 4 [.d (D.b false)], .row 204 [.d (D.s c.1.name), .d (D.s c.1.fields)], .row 64 [.d (D.i .u8 x0.op), .n c21v178, .n c22v179, .n c23v180, .n c24v181, .n c25v182, .n c26v183], .row 211 [.pt 2 0], .lp f [.pt 0 0] .busy none, .row 204 [.d (D.s e.1.name), .d (D.s e.1.fields)], .row 215 [.fn (.func 161) [] [.pt 7 0], .fn (.func 162) [] [.pt 7 0], .n ((f157 g).1), .n ((f157 g).2)], .row 220 [.pt 2 1], .row 215 [.fn (.func 161) [] [.pt 7 0], .fn (.func 162) [] [.pt 7 0], .n 0, .n 0], .row 215 [.fn (.func 161) [] [.pt 7 0], .fn (.func 162) [] [.pt 7 0], .n ((f157 g).1), .n ((f157 g).2)]])) q q q q q ?_ (Zw q) q q ?_
 refine cI func161 λ_ _ _ _=>?_
 exact Rcx 14 q (aG (rs1 q (bR q)) ⟨h,Zl,⟨Zp,Zp,Zp,Zp,⟨q,Zs _,q,q⟩,Zp,Zp,Zp,Zp,Zp,Zt⟩⟩)
 rintro rv st1 ⟨h,hr,hst⟩
 subst b0
 dsimp only at h
 refine WL.cast 47 q hr (WL.weak hst (Rl 1 q (Zn (Rcl 7 q ?_))))
 refine OG 5 52 57 5 5 ?_
 refine Rlc 2 q (Ci h q (λh=>?_) λh=>?_)
 exact Rcl 2 q (sS Z6 s4 Z2 (Rlx 5 q (cT E q (.inl ⟨h,q,⟨Zp,Zp,Zp,Zp,⟨q,Zs _,q,q⟩,Zp,Zp,Zp,Zp,Zp,Zt⟩⟩))))
 refine Rcl 5 q ?_
 obtain⟨b1,b2,h⟩:=ay h
 refine WL.inl (us:=[.n 0, .pt 7 0]) (λrv st'=>(b1 ()=some r∧Le rv (.tu [])∧SLe st' [.row 4 [.d (D.b false)], .row 204 [.d (D.s c.1.name), .d (D.s c.1.fields)], .row 64 [.d (D.i .u8 x0.op), .n 0, .n c22v179, .n c23v180, .n c24v181, .n c25v182, .n c26v183], .row 211 [.pt 2 0], .lp f [.pt 0 0] .busy none, .row 204 [.d (D.s e.1.name), .d (D.s e.1.fields)], .row 215 [.fn (.func 161) [] [.pt 7 0], .fn (.func 162) [] [.pt 7 0], .n ((f157 g).1), .n ((f157 g).2)], .row 220 [.pt 2 1], .row 215 [.fn (.func 161) [] [.pt 7 0], .fn (.func 162) [] [.pt 7 0], .n 0, .n 0], .row 215 [.fn (.func 161) [] [.pt 7 0], .fn (.func 162) [] [.pt 7 0], .n ((f157 g).1), .n ((f157 g).2)]])) q q q q q ?_ (Zw q) q q ?_
 refine cI func162 λ_ _ _ _=>?_
 exact Rcl 4 q (sS Z6 s3 Z2 (Rlx 1 q (ce (aG (d3 q) ⟨h,Zl,⟨Zp,Zp,Zp,Zp,⟨q,Zs _,q,q⟩,Zp,Zp,Zp,Zp,Zp,Zt⟩⟩))))
 rintro rv st1 ⟨h,hr,hst⟩
 subst b2
 dsimp only at h
 exact WL.cast 60 q hr (WL.weak hst (WL.nil (Rxx 1 q (eS E q (.inr (⟨h,q,⟨Zp,Zp,Zp,Zp,⟨q,Zs _,q,q⟩,Zp,Zp,Zp,Zp,Zp,Zt⟩⟩))))))
 rintro rv st1 (⟨h,rfl,hst⟩|⟨h,rfl,hst⟩)
 subst bb
 dsimp only at h
 exact WL.weak hst (Rl 1 q (Zn (bW q (Rcx 5 q (aG (d3 q) (.inl ⟨c21v178,c22v179,c23v180,c24v181,c25v182,c26v183,e.1.name,e.1.fields,((f157 g).1),((f157 g).2),((f157 g).1),((f157 g).2),h,⟨Zp,Zp,Zp,Zp,⟨q,Zs _,q,q⟩,Zp,Zp,Zp,Zp,Zp,Zt⟩⟩))))))
 subst bo
 dsimp only at h
 exact WL.weak hst (Rl 1 q (Zn (cU q (Rcx 7 q (WE.drop 6 (env':=[(0, .yl 4),(1, .pt 3 0),(18, .l E9 y),(19, .n (List.length y:Int)),(20, .n (IntKind.i64.wrap (A+1)))]) Sb q q (Nat.le_trans (Nat.le_of_eq C) (nbT q)) (Fn7 h))))))
 refine Rcc 6 q (Ci h q (λh=>?_) λh=>?_)
 refine Rcl 4 q ?_
 obtain⟨b3,b4,h⟩:=ay h
 refine WL.inl (us:=[.pt 2 2]) (λrv st'=>(b3 ()=some r∧Le rv (.ag [.fn (.func 161) [] [.pt 7 0], .fn (.func 162) [] [.pt 7 0], .n 0, .n 0])∧SLe st' [.row 4 [.d (D.b false)], .row 204 [.d (D.s c.1.name), .d (D.s c.1.fields)], .row 64 [.d (D.i .u8 x0.op), .n c21v178, .n c22v179, .n c23v180, .n c24v181, .n c25v182, .n c26v183], .row 211 [.pt 2 0], .lp f [.pt 0 0] .ready none, .row 204 [.d (D.s e.1.name), .d (D.s e.1.fields)], .row 215 [.d (.v .nilFunc), .d (.v .nilFunc), .n 0, .n 0], .row 220 [.pt 2 2], .row 215 [.fn (.func 161) [] [.pt 7 0], .fn (.func 162) [] [.pt 7 0], .n 0, .n 0]])) q q q q q ?_ (Zw q) q q ?_
 refine cI func155 λ_ _ _ f4=>?_
 exact Rcl 2 q (Bx q q q (Al f' q (Rll 6 q (Zq (ac tt f' q q) q (sS Z6 eU Z2 (Rlx 3 q (aG (rs1 q (dL q q tS eU q)) ⟨h,Zl,⟨Zp,Zp,Zp,Zp,⟨q,Zs _,q,q⟩,Zp,Zp,Zp,Zp,Zt⟩⟩)))))))
 rintro rv st1 ⟨h,hr,hst⟩
 subst b4
 dsimp only at h
 refine WL.cast 41 q hr (WL.weak hst (sS Z6 eU Z2 (WL.nil (Rxl 5 q ?_))))
 obtain⟨j,b5,h⟩:=ae h
 refine Zq (cL underlying9 q q b5) q (wF Z4 (f157_c) Lw Z3 (Rl 4 q (sS Z6 s2 Z2 (Rl 1 q (sS Z6 s2 Z2 (Rll 6 q ?_))))))
 obtain⟨b6,b7,h⟩:=ay h
 obtain⟨b8,b9,h⟩:=ay h
 refine WL.yield (env0:=[(44, .ag [.fn (.func 161) [] [.pt 7 0], .fn (.func 162) [] [.pt 7 0], .n ((f157 j).1), .n ((f157 j).2)]),(2, .pt 0 0)]) (λrv st'=>(b6 ()=some r∧rv= .d (.v (.bool false))∧SLe st' [.row 4 [.d (D.b false)], .row 204 [.d (D.s c.1.name), .d (D.s c.1.fields)], .row 64 [.d (D.i .u8 x0.op), .n c21v178, .n c22v179, .n c23v180, .n c24v181, .n c25v182, .n c26v183], .row 211 [.pt 2 0], .lp f [.pt 0 0] .done (some .ret), .row 204 [.d (D.s e.1.name), .d (D.s e.1.fields)], .row 215 [.fn (.func 161) [] [.pt 7 0], .fn (.func 162) [] [.pt 7 0], .n ((f157 j).1), .n ((f157 j).2)], .row 220 [.pt 2 2], .row 215 [.fn (.func 161) [] [.pt 7 0], .fn (.func 162) [] [.pt 7 0], .n 0, .n 0], .row 215 [.fn (.func 161) [] [.pt 7 0], .fn (.func 162) [] [.pt 7 0], .n ((f157 j).1), .n ((f157 j).2)]])∨(b8 ()=some r∧rv= .d (.v (.bool true))∧SLe st' [.row 4 [.d (D.b false)], .row 204 [.d (D.s c.1.name), .d (D.s c.1.fields)], .row 64 [.d (D.i .u8 x0.op), .n c21v178, .n 0, .n c23v180, .n c24v181, .n c25v182, .n c26v183], .row 211 [.pt 2 0], .lp f [.pt 0 0] .ready none, .row 204 [.d (D.s e.1.name), .d (D.s e.1.fields)], .row 215 [.fn (.func 161) [] [.pt 7 0], .fn (.func 162) [] [.pt 7 0], .n ((f157 j).1), .n ((f157 j).2)], .row 220 [.pt 2 2], .row 215 [.fn (.func 161) [] [.pt 7 0], .fn (.func 162) [] [.pt 7 0], .n 0, .n 0], .row 215 [.fn (.func 161) [] [.pt 7 0], .fn (.func 162) [] [.pt 7 0], .n ((f157 j).1), .n ((f157 j).2)]])) B q q q q q q q (λee hn F f6=>?_) (Zw q) q q ?_
 obtain⟨em,eφ,ew,en,er⟩:=ee
 subst hn
 refine Rcl 1 q (Al f' q (sS Z6 eU Z2 (Rlx 1 q (gE F q (Rcl 6 q ?_)))))
 obtain⟨b',ca,h⟩:=ay h
 refine WL.inl (us:=[.pt 7 0]) (λrv st'=>(b' ()=some r∧Le rv (.n c22v179)∧SLe st' [.row 4 [.d (D.b false)], .row 204 [.d (D.s c.1.name), .d (D.s c.1.fields)], .row 64 [.d (D.i .u8 x0.op), .n c21v178, .n c22v179, .n c23v180, .n c24v181, .n c25v182, .n c26v183], .row 211 [.pt 2 0], .lp f [.pt 0 0] .busy none, .row 204 [.d (D.s e.1.name), .d (D.s e.1.fields)], .row 215 [.fn (.func 161) [] [.pt 7 0], .fn (.func 162) [] [.pt 7 0], .n ((f157 j).1), .n ((f157 j).2)], .row 220 [.pt 2 2], .row 215 [.fn (.func 161) [] [.pt 7 0], .fn (.func 162) [] [.pt 7 0], .n 0, .n 0], .row 215 [.fn (.func 161) [] [.pt 7 0], .fn (.func 162) [] [.pt 7 0], .n ((f157 j).1), .n ((f157 j).2)]])) q q q q q ?_ (Zw q) q q ?_
 refine cI func161 λ_ _ _ _=>?_
 exact Rcx 14 q (aG (rs1 q (bR q)) ⟨h,Zl,⟨Zp,Zp,Zp,Zp,⟨q,Zs _,q,q⟩,Zp,Zp,Zp,Zp,Zp,Zt⟩⟩)
 rintro rv st1 ⟨h,hr,hst⟩
 subst ca
 dsimp only at h
 refine WL.cast 47 q hr (WL.weak hst (Rl 1 q (Zn (Rcl 7 q ?_))))
 refine OG 5 52 57 5 5 ?_
 refine Rlc 2 q (Ci h q (λh=>?_) λh=>?_)
 exact Rcl 2 q (sS Z6 s4 Z2 (Rlx 5 q (cT F q (.inl ⟨h,q,⟨Zp,Zp,Zp,Zp,⟨q,Zs _,q,q⟩,Zp,Zp,Zp,Zp,Zp,Zt⟩⟩))))
 refine Rcl 5 q ?_
 obtain⟨cb,cc,h⟩:=ay h
 refine WL.inl (us:=[.n 0, .pt 7 0]) (λrv st'=>(cb ()=some r∧Le rv (.tu [])∧SLe st' [.row 4 [.d (D.b false)], .row 204 [.d (D.s c.1.name), .d (D.s c.1.fields)], .row 64 [.d (D.i .u8 x0.op), .n c21v178, .n 0, .n c23v180, .n c24v181, .n c25v182, .n c26v183], .row 211 [.pt 2 0], .lp f [.pt 0 0] .busy none, .row 204 [.d (D.s e.1.name), .d (D.s e.1.fields)], .row 215 [.fn (.func 161) [] [.pt 7 0], .fn (.func 162) [] [.pt 7 0], .n ((f157 j).1), .n ((f157 j).2)], .row 220 [.pt 2 2], .row 215 [.fn (.func 161) [] [.pt 7 0], .fn (.func 162) [] [.pt 7 0], .n 0, .n 0], .row 215 [.fn (.func 161) [] [.pt 7 0], .fn (.func 162) [] [.pt 7 0], .n ((f157 j).1), .n ((f157 j).2)]])) q q q q q ?_ (Zw q) q q ?_
 refine cI func162 λ_ _ _ _=>?_
 exact Rcl 4 q (sS Z6 s3 Z2 (Rlx 1 q (ce (aG (d3 q) ⟨h,Zl,⟨Zp,Zp,Zp,Zp,⟨q,Zs _,q,q⟩,Zp,Zp,Zp,Zp,Zp,Zt⟩⟩))))
 rintro rv st1 ⟨h,hr,hst⟩
 subst cc
 dsimp only at h
 exact WL.cast 60 q hr (WL.weak hst (WL.nil (Rxx 1 q (eS F q (.inr (⟨h,q,⟨Zp,Zp,Zp,Zp,⟨q,Zs _,q,q⟩,Zp,Zp,Zp,Zp,Zp,Zt⟩⟩))))))
 rintro rv st1 (⟨h,rfl,hst⟩|⟨h,rfl,hst⟩)
 subst b7
 dsimp only at h
 exact WL.weak hst (Rl 1 q (Zn (bW q (Rcx 5 q (aG (d3 q) (.inr (.inl ⟨c21v178,c22v179,c23v180,c24v181,c25v182,c26v183,e.1.name,e.1.fields,((f157 j).1),((f157 j).2),((f157 j).1),((f157 j).2),h,⟨Zp,Zp,Zp,Zp,⟨q,Zs _,q,q⟩,Zp,Zp,Zp,Zp,Zp,Zt⟩⟩)))))))
 subst b9
 dsimp only at h
 exact WL.weak hst (Rl 1 q (Zn (cU q (Rcx 7 q (WE.drop 6 (env':=[(0, .yl 4),(1, .pt 3 0),(18, .l E9 y),(19, .n (List.length y:Int)),(20, .n (IntKind.i64.wrap (A+1)))]) Sb q q (Nat.le_trans (Nat.le_of_eq C) (nbT q)) (Fn7 h))))))
 refine Rcc 6 q (Ci h q (λh=>?_) λh=>?_)
 refine Rcl 4 q ?_
 obtain⟨cd,ci,h⟩:=ay h
 refine WL.inl (us:=[.pt 2 3]) (λrv st'=>(cd ()=some r∧Le rv (.ag [.fn (.func 161) [] [.pt 7 0], .fn (.func 162) [] [.pt 7 0], .n 0, .n 0])∧SLe st' [.row 4 [.d (D.b false)], .row 204 [.d (D.s c.1.name), .d (D.s c.1.fields)], .row 64 [.d (D.i .u8 x0.op), .n c21v178, .n c22v179, .n c23v180, .n c24v181, .n c25v182, .n c26v183], .row 211 [.pt 2 0], .lp f [.pt 0 0] .ready none, .row 204 [.d (D.s e.1.name), .d (D.s e.1.fields)], .row 215 [.d (.v .nilFunc), .d (.v .nilFunc), .n 0, .n 0], .row 220 [.pt 2 3], .row 215 [.fn (.func 161) [] [.pt 7 0], .fn (.func 162) [] [.pt 7 0], .n 0, .n 0]])) q q q q q ?_ (Zw q) q q ?_
 refine cI func155 λ_ _ _ _=>?_
 exact Rcl 2 q (Bx q q q (Al f' q (Rll 6 q (Zq (ac tt f' q q) q (sS Z6 eU Z2 (Rlx 3 q (aG (rs1 q (dL q q tS eU q)) ⟨h,Zl,⟨Zp,Zp,Zp,Zp,⟨q,Zs _,q,q⟩,Zp,Zp,Zp,Zp,Zt⟩⟩)))))))
 rintro rv st1 ⟨h,hr,hst⟩
 subst ci
 dsimp only at h
 refine WL.cast 47 q hr (WL.weak hst (sS Z6 eU Z2 (WL.nil (Rxl 5 q ?_))))
 obtain⟨k,cj,h⟩:=ae h
 refine Zq (cL underlying9 q q cj) q (wF Z4 (f157_c) Lw Z3 (Rl 4 q (sS Z6 s2 Z2 (Rl 1 q (sS Z6 s2 Z2 (Rll 6 q ?_))))))
 obtain⟨ck,cl,h⟩:=ay h
 obtain⟨cp,cr,h⟩:=ay h
 refine WL.yield (env0:=[(44, .ag [.fn (.func 161) [] [.pt 7 0], .fn (.func 162) [] [.pt 7 0], .n ((f157 k).1), .n ((f157 k).2)]),(2, .pt 0 0)]) (λrv st'=>(ck ()=some r∧rv= .d (.v (.bool false))∧SLe st' [.row 4 [.d (D.b false)], .row 204 [.d (D.s c.1.name), .d (D.s c.1.fields)], .row 64 [.d (D.i .u8 x0.op), .n c21v178, .n c22v179, .n c23v180, .n c24v181, .n c25v182, .n c26v183], .row 211 [.pt 2 0], .lp f [.pt 0 0] .done (some .ret), .row 204 [.d (D.s e.1.name), .d (D.s e.1.fields)], .row 215 [.fn (.func 161) [] [.pt 7 0], .fn (.func 162) [] [.pt 7 0], .n ((f157 k).1), .n ((f157 k).2)], .row 220 [.pt 2 3], .row 215 [.fn (.func 161) [] [.pt 7 0], .fn (.func 162) [] [.pt 7 0], .n 0, .n 0], .row 215 [.fn (.func 161) [] [.pt 7 0], .fn (.func 162) [] [.pt 7 0], .n ((f157 k).1), .n ((f157 k).2)]])∨(cp ()=some r∧rv= .d (.v (.bool true))∧SLe st' [.row 4 [.d (D.b false)], .row 204 [.d (D.s c.1.name), .d (D.s c.1.fields)], .row 64 [.d (D.i .u8 x0.op), .n c21v178, .n c22v179, .n 0, .n c24v181, .n c25v182, .n c26v183], .row 211 [.pt 2 0], .lp f [.pt 0 0] .ready none, .row 204 [.d (D.s e.1.name), .d (D.s e.1.fields)], .row 215 [.fn (.func 161) [] [.pt 7 0], .fn (.func 162) [] [.pt 7 0], .n ((f157 k).1), .n ((f157 k).2)], .row 220 [.pt 2 3], .row 215 [.fn (.func 161) [] [.pt 7 0], .fn (.func 162) [] [.pt 7 0], .n 0, .n 0], .row 215 [.fn (.func 161) [] [.pt 7 0], .fn (.func 162) [] [.pt 7 0], .n ((f157 k).1), .n ((f157 k).2)]])) B q q q q q q q (λee hn G f7=>?_) (Zw q) q q ?_
 obtain⟨em,eφ,ew,en,er⟩:=ee
 subst hn
 refine Rcl 1 q (Al f' q (sS Z6 eU Z2 (Rlx 1 q (gE G q (Rcl 6 q ?_)))))
 obtain⟨c0,c5,h⟩:=ay h
 refine WL.inl (us:=[.pt 7 0]) (λrv st'=>(c0 ()=some r∧Le rv (.n c23v180)∧SLe st' [.row 4 [.d (D.b false)], .row 204 [.d (D.s c.1.name), .d (D.s c.1.fields)], .row 64 [.d (D.i .u8 x0.op), .n c21v178, .n c22v179, .n c23v180, .n c24v181, .n c25v182, .n c26v183], .row 211 [.pt 2 0], .lp f [.pt 0 0] .busy none, .row 204 [.d (D.s e.1.name), .d (D.s e.1.fields)], .row 215 [.fn (.func 161) [] [.pt 7 0], .fn (.func 162) [] [.pt 7 0], .n ((f157 k).1), .n ((f157 k).2)], .row 220 [.pt 2 3], .row 215 [.fn (.func 161) [] [.pt 7 0], .fn (.func 162) [] [.pt 7 0], .n 0, .n 0], .row 215 [.fn (.func 161) [] [.pt 7 0], .fn (.func 162) [] [.pt 7 0], .n ((f157 k).1), .n ((f157 k).2)]])) q q q q q ?_ (Zw q) q q ?_
 refine cI func161 λ_ _ _ _=>?_
 exact Rcx 14 q (aG (rs1 q (bR q)) ⟨h,Zl,⟨Zp,Zp,Zp,Zp,⟨q,Zs _,q,q⟩,Zp,Zp,Zp,Zp,Zp,Zt⟩⟩)
 rintro rv st1 ⟨h,hr,hst⟩
 subst c5
 dsimp only at h
 refine WL.cast 47 q hr (WL.weak hst (Rl 1 q (Zn (Rcl 7 q ?_))))
 refine OG 5 52 57 5 5 ?_
 refine Rlc 2 q (Ci h q (λh=>?_) λh=>?_)
 exact Rcl 2 q (sS Z6 s4 Z2 (Rlx 5 q (cT G q (.inl ⟨h,q,⟨Zp,Zp,Zp,Zp,⟨q,Zs _,q,q⟩,Zp,Zp,Zp,Zp,Zp,Zt⟩⟩))))
 refine Rcl 5 q ?_
 obtain⟨c6,c7,h⟩:=ay h
 refine WL.inl (us:=[.n 0, .pt 7 0]) (λrv st'=>(c6 ()=some r∧Le rv (.tu [])∧SLe st' [.row 4 [.d (D.b false)], .row 204 [.d (D.s c.1.name), .d (D.s c.1.fields)], .row 64 [.d (D.i .u8 x0.op), .n c21v178, .n c22v179, .n 0, .n c24v181, .n c25v182, .n c26v183], .row 211 [.pt 2 0], .lp f [.pt 0 0] .busy none, .row 204 [.d (D.s e.1.name), .d (D.s e.1.fields)], .row 215 [.fn (.func 161) [] [.pt 7 0], .fn (.func 162) [] [.pt 7 0], .n ((f157 k).1), .n ((f157 k).2)], .row 220 [.pt 2 3], .row 215 [.fn (.func 161) [] [.pt 7 0], .fn (.func 162) [] [.pt 7 0], .n 0, .n 0], .row 215 [.fn (.func 161) [] [.pt 7 0], .fn (.func 162) [] [.pt 7 0], .n ((f157 k).1), .n ((f157 k).2)]])) q q q q q ?_ (Zw q) q q ?_
 refine cI func162 λ_ _ _ _=>?_
 exact Rcl 4 q (sS Z6 s3 Z2 (Rlx 1 q (ce (aG (d3 q) ⟨h,Zl,⟨Zp,Zp,Zp,Zp,⟨q,Zs _,q,q⟩,Zp,Zp,Zp,Zp,Zp,Zt⟩⟩))))
 rintro rv st1 ⟨h,hr,hst⟩
 subst c7
 dsimp only at h
 exact WL.cast 60 q hr (WL.weak hst (WL.nil (Rxx 1 q (eS G q (.inr (⟨h,q,⟨Zp,Zp,Zp,Zp,⟨q,Zs _,q,q⟩,Zp,Zp,Zp,Zp,Zp,Zt⟩⟩))))))
 rintro rv st1 (⟨h,rfl,hst⟩|⟨h,rfl,hst⟩)
 subst cl
 dsimp only at h
 exact WL.weak hst (Rl 1 q (Zn (bW q (Rcx 5 q (aG (d3 q) (.inr (.inr (.inl ⟨c21v178,c22v179,c23v180,c24v181,c25v182,c26v183,e.1.name,e.1.fields,((f157 k).1),((f157 k).2),((f157 k).1),((f157 k).2),h,⟨Zp,Zp,Zp,Zp,⟨q,Zs _,q,q⟩,Zp,Zp,Zp,Zp,Zp,Zt⟩⟩))))))))
 subst cr
 dsimp only at h
 exact WL.weak hst (Rl 1 q (Zn (cU q (Rcx 7 q (WE.drop 6 (env':=[(0, .yl 4),(1, .pt 3 0),(18, .l E9 y),(19, .n (List.length y:Int)),(20, .n (IntKind.i64.wrap (A+1)))]) Sb q q (Nat.le_trans (Nat.le_of_eq C) (nbT q)) (Fn7 h))))))
 refine Rcc 6 q (Ci h q (λh=>?_) λh=>?_)
 refine Rcl 4 q ?_
 obtain⟨c8,c',h⟩:=ay h
 refine WL.inl (us:=[.pt 2 4]) (λrv st'=>(c8 ()=some r∧Le rv (.ag [.fn (.func 163) [] [.pt 7 0], .fn (.func 164) [] [.pt 7 0], .n 0, .n 0])∧SLe st' [.row 4 [.d (D.b false)], .row 204 [.d (D.s c.1.name), .d (D.s c.1.fields)], .row 64 [.d (D.i .u8 x0.op), .n c21v178, .n c22v179, .n c23v180, .n c24v181, .n c25v182, .n c26v183], .row 211 [.pt 2 0], .lp f [.pt 0 0] .ready none, .row 204 [.d (D.s e.1.name), .d (D.s e.1.fields)], .row 215 [.d (.v .nilFunc), .d (.v .nilFunc), .n 0, .n 0], .row 231 [.pt 2 4], .row 215 [.fn (.func 163) [] [.pt 7 0], .fn (.func 164) [] [.pt 7 0], .n 0, .n 0]])) q q q q q ?_ (Zw q) q q ?_
 refine cI func156 λ_ _ _ _=>?_
 exact Rcl 2 q (Bx q q q (Al f' q (Rll 6 q (Zq (ac tt f' q q) q (sS Z6 eU Z2 (Rlx 3 q (aG (rs1 q (dL q q tS eU q)) ⟨h,Zl,⟨Zp,Zp,Zp,Zp,⟨q,Zs _,q,q⟩,Zp,Zp,Zp,Zp,Zt⟩⟩)))))))
 rintro rv st1 ⟨h,hr,hst⟩
 subst c'
 dsimp only at h
 refine WL.cast 53 q hr (WL.weak hst (sS Z6 eU Z2 (WL.nil (Rxl 5 q ?_))))
 obtain⟨p,dd,h⟩:=ae h
 refine Zq (cL underlying9 q q dd) q (wF Z4 (f157_c) Lw Z3 (Rl 4 q (sS Z6 s2 Z2 (Rl 1 q (sS Z6 s2 Z2 (Rll 6 q ?_))))))
 obtain⟨df,dk,h⟩:=ay h
 obtain⟨dr,ds,h⟩:=ay h
 refine WL.yield (env0:=[(44, .ag [.fn (.func 163) [] [.pt 7 0], .fn (.func 164) [] [.pt 7 0], .n ((f157 p).1), .n ((f157 p).2)]),(2, .pt 0 0)]) (λrv st'=>(df ()=some r∧rv= .d (.v (.bool false))∧SLe st' [.row 4 [.d (D.b false)], .row 204 [.d (D.s c.1.name), .d (D.s c.1.fields)], .row 64 [.d (D.i .u8 x0.op), .n c21v178, .n c22v179, .n c23v180, .n c24v181, .n c25v182, .n c26v183], .row 211 [.pt 2 0], .lp f [.pt 0 0] .done (some .ret), .row 204 [.d (D.s e.1.name), .d (D.s e.1.fields)], .row 215 [.fn (.func 163) [] [.pt 7 0], .fn (.func 164) [] [.pt 7 0], .n ((f157 p).1), .n ((f157 p).2)], .row 231 [.pt 2 4], .row 215 [.fn (.func 163) [] [.pt 7 0], .fn (.func 164) [] [.pt 7 0], .n 0, .n 0], .row 215 [.fn (.func 163) [] [.pt 7 0], .fn (.func 164) [] [.pt 7 0], .n ((f157 p).1), .n ((f157 p).2)]])∨(dr ()=some r∧rv= .d (.v (.bool true))∧SLe st' [.row 4 [.d (D.b false)], .row 204 [.d (D.s c.1.name), .d (D.s c.1.fields)], .row 64 [.d (D.i .u8 x0.op), .n c21v178, .n c22v179, .n c23v180, .n 0, .n c25v182, .n c26v183], .row 211 [.pt 2 0], .lp f [.pt 0 0] .ready none, .row 204 [.d (D.s e.1.name), .d (D.s e.1.fields)], .row 215 [.fn (.func 163) [] [.pt 7 0], .fn (.func 164) [] [.pt 7 0], .n ((f157 p).1), .n ((f157 p).2)], .row 231 [.pt 2 4], .row 215 [.fn (.func 163) [] [.pt 7 0], .fn (.func 164) [] [.pt 7 0], .n 0, .n 0], .row 215 [.fn (.func 163) [] [.pt 7 0], .fn (.func 164) [] [.pt 7 0], .n ((f157 p).1), .n ((f157 p).2)]])) B q q q q q q q (λee hn H gl=>?_) (Zw q) q q ?_
 obtain⟨em,eφ,ew,en,er⟩:=ee
 subst hn
 refine Rcl 1 q (Al f' q (sS Z6 eU Z2 (Rlx 1 q (gE H q (Rcl 6 q ?_)))))
 obtain⟨dS,dT,h⟩:=ay h
 refine WL.inl (us:=[.pt 7 0]) (λrv st'=>(dS ()=some r∧Le rv (.n c24v181)∧SLe st' [.row 4 [.d (D.b false)], .row 204 [.d (D.s c.1.name), .d (D.s c.1.fields)], .row 64 [.d (D.i .u8 x0.op), .n c21v178, .n c22v179, .n c23v180, .n c24v181, .n c25v182, .n c26v183], .row 211 [.pt 2 0], .lp f [.pt 0 0] .busy none, .row 204 [.d (D.s e.1.name), .d (D.s e.1.fields)], .row 215 [.fn (.func 163) [] [.pt 7 0], .fn (.func 164) [] [.pt 7 0], .n ((f157 p).1), .n ((f157 p).2)], .row 231 [.pt 2 4], .row 215 [.fn (.func 163) [] [.pt 7 0], .fn (.func 164) [] [.pt 7 0], .n 0, .n 0], .row 215 [.fn (.func 163) [] [.pt 7 0], .fn (.func 164) [] [.pt 7 0], .n ((f157 p).1), .n ((f157 p).2)]])) q q q q q ?_ (Zw q) q q ?_
 refine cI func163 λ_ _ _ _=>?_
 exact Rcx 14 q (aG (rs1 q (bR q)) ⟨h,Zl,⟨Zp,Zp,Zp,Zp,⟨q,Zs _,q,q⟩,Zp,Zp,Zp,Zp,Zp,Zt⟩⟩)
 rintro rv st1 ⟨h,hr,hst⟩
 subst dT
 dsimp only at h
 refine WL.cast 47 q hr (WL.weak hst (Rl 1 q (Zn (Rcl 7 q ?_))))
 refine OG 5 52 57 5 5 ?_
 refine Rlc 2 q (Ci h q (λh=>?_) λh=>?_)
 exact Rcl 2 q (sS Z6 s4 Z2 (Rlx 5 q (cT H q (.inl ⟨h,q,⟨Zp,Zp,Zp,Zp,⟨q,Zs _,q,q⟩,Zp,Zp,Zp,Zp,Zp,Zt⟩⟩))))
 refine Rcl 5 q ?_
 obtain⟨d0,d1,h⟩:=ay h
 refine WL.inl (us:=[.n 0, .pt 7 0]) (λrv st'=>(d0 ()=some r∧Le rv (.tu [])∧SLe st' [.row 4 [.d (D.b false)], .row 204 [.d (D.s c.1.name), .d (D.s c.1.fields)], .row 64 [.d (D.i .u8 x0.op), .n c21v178, .n c22v179, .n c23v180, .n 0, .n c25v182, .n c26v183], .row 211 [.pt 2 0], .lp f [.pt 0 0] .busy none, .row 204 [.d (D.s e.1.name), .d (D.s e.1.fields)], .row 215 [.fn (.func 163) [] [.pt 7 0], .fn (.func 164) [] [.pt 7 0], .n ((f157 p).1), .n ((f157 p).2)], .row 231 [.pt 2 4], .row 215 [.fn (.func 163) [] [.pt 7 0], .fn (.func 164) [] [.pt 7 0], .n 0, .n 0], .row 215 [.fn (.func 163) [] [.pt 7 0], .fn (.func 164) [] [.pt 7 0], .n ((f157 p).1), .n ((f157 p).2)]])) q q q q q ?_ (Zw q) q q ?_
 refine cI func164 λ_ _ _ _=>?_
 exact Rcl 4 q (sS Z6 s2 Z2 (Rlx 1 q (ce (aG (d3 q) ⟨h,Zl,⟨Zp,Zp,Zp,Zp,⟨q,Zs _,q,q⟩,Zp,Zp,Zp,Zp,Zp,Zt⟩⟩))))
 rintro rv st1 ⟨h,hr,hst⟩
 subst d1
 dsimp only at h
 exact WL.cast 60 q hr (WL.weak hst (WL.nil (Rxx 1 q (eS H q (.inr (⟨h,q,⟨Zp,Zp,Zp,Zp,⟨q,Zs _,q,q⟩,Zp,Zp,Zp,Zp,Zp,Zt⟩⟩))))))
 rintro rv st1 (⟨h,rfl,hst⟩|⟨h,rfl,hst⟩)
 subst dk
 dsimp only at h
 exact WL.weak hst (Rl 1 q (Zn (bW q (Rcx 5 q (aG (d3 q) (.inr (.inr (.inr (.inl ⟨c21v178,c22v179,c23v180,c24v181,c25v182,c26v183,e.1.name,e.1.fields,((f157 p).1),((f157 p).2),((f157 p).1),((f157 p).2),h,⟨Zp,Zp,Zp,Zp,⟨q,Zs _,q,q⟩,Zp,Zp,Zp,Zp,Zp,Zt⟩⟩)))))))))
 subst ds
 dsimp only at h
 exact WL.weak hst (Rl 1 q (Zn (cU q (Rcx 7 q (WE.drop 6 (env':=[(0, .yl 4),(1, .pt 3 0),(18, .l E9 y),(19, .n (List.length y:Int)),(20, .n (IntKind.i64.wrap (A+1)))]) Sb q q (Nat.le_trans (Nat.le_of_eq C) (nbT q)) (Fn7 h))))))
 refine Rcc 6 q (Ci h q (λh=>?_) λh=>?_)
 refine Rcl 4 q ?_
 obtain⟨d',ec,h⟩:=ay h
 refine WL.inl (us:=[.pt 2 5]) (λrv st'=>(d' ()=some r∧Le rv (.ag [.fn (.func 163) [] [.pt 7 0], .fn (.func 164) [] [.pt 7 0], .n 0, .n 0])∧SLe st' [.row 4 [.d (D.b false)], .row 204 [.d (D.s c.1.name), .d (D.s c.1.fields)], .row 64 [.d (D.i .u8 x0.op), .n c21v178, .n c22v179, .n c23v180, .n c24v181, .n c25v182, .n c26v183], .row 211 [.pt 2 0], .lp f [.pt 0 0] .ready none, .row 204 [.d (D.s e.1.name), .d (D.s e.1.fields)], .row 215 [.d (.v .nilFunc), .d (.v .nilFunc), .n 0, .n 0], .row 231 [.pt 2 5], .row 215 [.fn (.func 163) [] [.pt 7 0], .fn (.func 164) [] [.pt 7 0], .n 0, .n 0]])) q q q q q ?_ (Zw q) q q ?_
 refine cI func156 λ_ _ _ _=>?_
 exact Rcl 2 q (Bx q q q (Al f' q (Rll 6 q (Zq (ac tt f' q q) q (sS Z6 eU Z2 (Rlx 3 q (aG (rs1 q (dL q q tS eU q)) ⟨h,Zl,⟨Zp,Zp,Zp,Zp,⟨q,Zs _,q,q⟩,Zp,Zp,Zp,Zp,Zt⟩⟩)))))))
 rintro rv st1 ⟨h,hr,hst⟩
 subst ec
 dsimp only at h
 refine WL.cast 59 q hr (WL.weak hst (sS Z6 eU Z2 (WL.nil (Rxl 5 q ?_))))
 obtain⟨w,ei,h⟩:=ae h
 refine Zq (cL underlying9 q q ei) q (wF Z4 (f157_c) Lw Z3 (Rl 4 q (sS Z6 s2 Z2 (Rl 1 q (sS Z6 s2 Z2 (Rll 6 q ?_))))))
 obtain⟨ej,el,h⟩:=ay h
 obtain⟨es,et,h⟩:=ay h
 refine WL.yield (env0:=[(44, .ag [.fn (.func 163) [] [.pt 7 0], .fn (.func 164) [] [.pt 7 0], .n ((f157 w).1), .n ((f157 w).2)]),(2, .pt 0 0)]) (λrv st'=>(ej ()=some r∧rv= .d (.v (.bool false))∧SLe st' [.row 4 [.d (D.b false)], .row 204 [.d (D.s c.1.name), .d (D.s c.1.fields)], .row 64 [.d (D.i .u8 x0.op), .n c21v178, .n c22v179, .n c23v180, .n c24v181, .n c25v182, .n c26v183], .row 211 [.pt 2 0], .lp f [.pt 0 0] .done (some .ret), .row 204 [.d (D.s e.1.name), .d (D.s e.1.fields)], .row 215 [.fn (.func 163) [] [.pt 7 0], .fn (.func 164) [] [.pt 7 0], .n ((f157 w).1), .n ((f157 w).2)], .row 231 [.pt 2 5], .row 215 [.fn (.func 163) [] [.pt 7 0], .fn (.func 164) [] [.pt 7 0], .n 0, .n 0], .row 215 [.fn (.func 163) [] [.pt 7 0], .fn (.func 164) [] [.pt 7 0], .n ((f157 w).1), .n ((f157 w).2)]])∨(es ()=some r∧rv= .d (.v (.bool true))∧SLe st' [.row 4 [.d (D.b false)], .row 204 [.d (D.s c.1.name), .d (D.s c.1.fields)], .row 64 [.d (D.i .u8 x0.op), .n c21v178, .n c22v179, .n c23v180, .n c24v181, .n 0, .n c26v183], .row 211 [.pt 2 0], .lp f [.pt 0 0] .ready none, .row 204 [.d (D.s e.1.name), .d (D.s e.1.fields)], .row 215 [.fn (.func 163) [] [.pt 7 0], .fn (.func 164) [] [.pt 7 0], .n ((f157 w).1), .n ((f157 w).2)], .row 231 [.pt 2 5], .row 215 [.fn (.func 163) [] [.pt 7 0], .fn (.func 164) [] [.pt 7 0], .n 0, .n 0], .row 215 [.fn (.func 163) [] [.pt 7 0], .fn (.func 164) [] [.pt 7 0], .n ((f157 w).1), .n ((f157 w).2)]])) B q q q q q q q (λee hn I gm=>?_) (Zw q) q q ?_
 obtain⟨em,eφ,ew,en,er⟩:=ee
 subst hn
 refine Rcl 1 q (Al f' q (sS Z6 eU Z2 (Rlx 1 q (gE I q (Rcl 6 q ?_)))))
 obtain⟨ex,ey,h⟩:=ay h
 refine WL.inl (us:=[.pt 7 0]) (λrv st'=>(ex ()=some r∧Le rv (.n c25v182)∧SLe st' [.row 4 [.d (D.b false)], .row 204 [.d (D.s c.1.name), .d (D.s c.1.fields)], .row 64 [.d (D.i .u8 x0.op), .n c21v178, .n c22v179, .n c23v180, .n c24v181, .n c25v182, .n c26v183], .row 211 [.pt 2 0], .lp f [.pt 0 0] .busy none, .row 204 [.d (D.s e.1.name), .d (D.s e.1.fields)], .row 215 [.fn (.func 163) [] [.pt 7 0], .fn (.func 164) [] [.pt 7 0], .n ((f157 w).1), .n ((f157 w).2)], .row 231 [.pt 2 5], .row 215 [.fn (.func 163) [] [.pt 7 0], .fn (.func 164) [] [.pt 7 0], .n 0, .n 0], .row 215 [.fn (.func 163) [] [.pt 7 0], .fn (.func 164) [] [.pt 7 0], .n ((f157 w).1), .n ((f157 w).2)]])) q q q q q ?_ (Zw q) q q ?_
 refine cI func163 λ_ _ _ _=>?_
 exact Rcx 14 q (aG (rs1 q (bR q)) ⟨h,Zl,⟨Zp,Zp,Zp,Zp,⟨q,Zs _,q,q⟩,Zp,Zp,Zp,Zp,Zp,Zt⟩⟩)
 rintro rv st1 ⟨h,hr,hst⟩
 subst ey
 dsimp only at h
 refine WL.cast 47 q hr (WL.weak hst (Rl 1 q (Zn (Rcl 7 q ?_))))
 refine OG 5 52 57 5 5 ?_
 refine Rlc 2 q (Ci h q (λh=>?_) λh=>?_)
 exact Rcl 2 q (sS Z6 s4 Z2 (Rlx 5 q (cT I q (.inl ⟨h,q,⟨Zp,Zp,Zp,Zp,⟨q,Zs _,q,q⟩,Zp,Zp,Zp,Zp,Zp,Zt⟩⟩))))
 refine Rcl 5 q ?_
 obtain⟨e0,e1,h⟩:=ay h
 refine WL.inl (us:=[.n 0, .pt 7 0]) (λrv st'=>(e0 ()=some r∧Le rv (.tu [])∧SLe st' [.row 4 [.d (D.b false)], .row 204 [.d (D.s c.1.name), .d (D.s c.1.fields)], .row 64 [.d (D.i .u8 x0.op), .n c21v178, .n c22v179, .n c23v180, .n c24v181, .n 0, .n c26v183], .row 211 [.pt 2 0], .lp f [.pt 0 0] .busy none, .row 204 [.d (D.s e.1.name), .d (D.s e.1.fields)], .row 215 [.fn (.func 163) [] [.pt 7 0], .fn (.func 164) [] [.pt 7 0], .n ((f157 w).1), .n ((f157 w).2)], .row 231 [.pt 2 5], .row 215 [.fn (.func 163) [] [.pt 7 0], .fn (.func 164) [] [.pt 7 0], .n 0, .n 0], .row 215 [.fn (.func 163) [] [.pt 7 0], .fn (.func 164) [] [.pt 7 0], .n ((f157 w).1), .n ((f157 w).2)]])) q q q q q ?_ (Zw q) q q ?_
 refine cI func164 λ_ _ _ _=>?_
 exact Rcl 4 q (sS Z6 s2 Z2 (Rlx 1 q (ce (aG (d3 q) ⟨h,Zl,⟨Zp,Zp,Zp,Zp,⟨q,Zs _,q,q⟩,Zp,Zp,Zp,Zp,Zp,Zt⟩⟩))))
 rintro rv st1 ⟨h,hr,hst⟩
 subst e1
 dsimp only at h
 exact WL.cast 60 q hr (WL.weak hst (WL.nil (Rxx 1 q (eS I q (.inr (⟨h,q,⟨Zp,Zp,Zp,Zp,⟨q,Zs _,q,q⟩,Zp,Zp,Zp,Zp,Zp,Zt⟩⟩))))))
 rintro rv st1 (⟨h,rfl,hst⟩|⟨h,rfl,hst⟩)
 subst el
 dsimp only at h
 exact WL.weak hst (Rl 1 q (Zn (bW q (Rcx 5 q (aG (d3 q) (.inr (.inr (.inr (.inr (.inl ⟨c21v178,c22v179,c23v180,c24v181,c25v182,c26v183,e.1.name,e.1.fields,((f157 w).1),((f157 w).2),((f157 w).1),((f157 w).2),h,⟨Zp,Zp,Zp,Zp,⟨q,Zs _,q,q⟩,Zp,Zp,Zp,Zp,Zp,Zt⟩⟩))))))))))
 subst et
 dsimp only at h
 exact WL.weak hst (Rl 1 q (Zn (cU q (Rcx 7 q (WE.drop 6 (env':=[(0, .yl 4),(1, .pt 3 0),(18, .l E9 y),(19, .n (List.length y:Int)),(20, .n (IntKind.i64.wrap (A+1)))]) Sb q q (Nat.le_trans (Nat.le_of_eq C) (nbT q)) (Fn7 h))))))
 refine Rcl 4 q ?_
 obtain⟨e2,e3,h⟩:=ay h
 refine WL.inl (us:=[.pt 2 6]) (λrv st'=>(e2 ()=some r∧Le rv (.ag [.fn (.func 161) [] [.pt 7 0], .fn (.func 162) [] [.pt 7 0], .n 0, .n 0])∧SLe st' [.row 4 [.d (D.b false)], .row 204 [.d (D.s c.1.name), .d (D.s c.1.fields)], .row 64 [.d (D.i .u8 x0.op), .n c21v178, .n c22v179, .n c23v180, .n c24v181, .n c25v182, .n c26v183], .row 211 [.pt 2 0], .lp f [.pt 0 0] .ready none, .row 204 [.d (D.s e.1.name), .d (D.s e.1.fields)], .row 215 [.d (.v .nilFunc), .d (.v .nilFunc), .n 0, .n 0], .row 220 [.pt 2 6], .row 215 [.fn (.func 161) [] [.pt 7 0], .fn (.func 162) [] [.pt 7 0], .n 0, .n 0]])) q q q q q ?_ (Zw q) q q ?_
 refine cI func155 λ_ _ _ _=>?_
 exact Rcl 2 q (Bx q q q (Al f' q (Rll 6 q (Zq (ac tt f' q q) q (sS Z6 eU Z2 (Rlx 3 q (aG (rs1 q (dL q q tS eU q)) ⟨h,Zl,⟨Zp,Zp,Zp,Zp,⟨q,Zs _,q,q⟩,Zp,Zp,Zp,Zp,Zt⟩⟩)))))))
 rintro rv st1 ⟨h,hr,hst⟩
 subst e3
 dsimp only at h
 refine WL.cast 29 q hr (WL.weak hst (sS Z6 eU Z2 (WL.nil (Rxl 5 q ?_))))
 obtain⟨x,e4,h⟩:=ae h
 refine Zq (cL underlying9 q q e4) q (wF Z4 (f157_c) Lw Z3 (Rl 4 q (sS Z6 s2 Z2 (Rl 1 q (sS Z6 s2 Z2 (Rll 6 q ?_))))))
 obtain⟨e5,e6,h⟩:=ay h
 obtain⟨e7,e',h⟩:=ay h
 refine WL.yield (env0:=[(44, .ag [.fn (.func 161) [] [.pt 7 0], .fn (.func 162) [] [.pt 7 0], .n ((f157 x).1), .n ((f157 x).2)]),(2, .pt 0 0)]) (λrv st'=>(e5 ()=some r∧rv= .d (.v (.bool false))∧SLe st' [.row 4 [.d (D.b false)], .row 204 [.d (D.s c.1.name), .d (D.s c.1.fields)], .row 64 [.d (D.i .u8 x0.op), .n c21v178, .n c22v179, .n c23v180, .n c24v181, .n c25v182, .n c26v183], .row 211 [.pt 2 0], .lp f [.pt 0 0] .done (some .ret), .row 204 [.d (D.s e.1.name), .d (D.s e.1.fields)], .row 215 [.fn (.func 161) [] [.pt 7 0], .fn (.func 162) [] [.pt 7 0], .n ((f157 x).1), .n ((f157 x).2)], .row 220 [.pt 2 6], .row 215 [.fn (.func 161) [] [.pt 7 0], .fn (.func 162) [] [.pt 7 0], .n 0, .n 0], .row 215 [.fn (.func 161) [] [.pt 7 0], .fn (.func 162) [] [.pt 7 0], .n ((f157 x).1), .n ((f157 x).2)]])∨(e7 ()=some r∧rv= .d (.v (.bool true))∧SLe st' [.row 4 [.d (D.b false)], .row 204 [.d (D.s c.1.name), .d (D.s c.1.fields)], .row 64 [.d (D.i .u8 x0.op), .n c21v178, .n c22v179, .n c23v180, .n c24v181, .n c25v182, .n 0], .row 211 [.pt 2 0], .lp f [.pt 0 0] .ready none, .row 204 [.d (D.s e.1.name), .d (D.s e.1.fields)], .row 215 [.fn (.func 161) [] [.pt 7 0], .fn (.func 162) [] [.pt 7 0], .n ((f157 x).1), .n ((f157 x).2)], .row 220 [.pt 2 6], .row 215 [.fn (.func 161) [] [.pt 7 0], .fn (.func 162) [] [.pt 7 0], .n 0, .n 0], .row 215 [.fn (.func 161) [] [.pt 7 0], .fn (.func 162) [] [.pt 7 0], .n ((f157 x).1), .n ((f157 x).2)]])) B q q q q q q q (λee hn J gs=>?_) (Zw q) q q ?_
 obtain⟨em,eφ,ew,en,er⟩:=ee
 subst hn
 refine Rcl 1 q (Al f' q (sS Z6 eU Z2 (Rlx 1 q (gE J q (Rcl 6 q ?_)))))
 obtain⟨fi,fo,h⟩:=ay h
 refine WL.inl (us:=[.pt 7 0]) (λrv st'=>(fi ()=some r∧Le rv (.n c26v183)∧SLe st' [.row 4 [.d (D.b false)], .row 204 [.d (D.s c.1.name), .d (D.s c.1.fields)], .row 64 [.d (D.i .u8 x0.op), .n c21v178, .n c22v179, .n c23v180, .n c24v181, .n c25v182, .n c26v183], .row 211 [.pt 2 0], .lp f [.pt 0 0] .busy none, .row 204 [.d (D.s e.1.name), .d (D.s e.1.fields)], .row 215 [.fn (.func 161) [] [.pt 7 0], .fn (.func 162) [] [.pt 7 0], .n ((f157 x).1), .n ((f157 x).2)], .row 220 [.pt 2 6], .row 215 [.fn (.func 161) [] [.pt 7 0], .fn (.func 162) [] [.pt 7 0], .n 0, .n 0], .row 215 [.fn (.func 161) [] [.pt 7 0], .fn (.func 162) [] [.pt 7 0], .n ((f157 x).1), .n ((f157 x).2)]])) q q q q q ?_ (Zw q) q q ?_
 refine cI func161 λ_ _ _ _=>?_
 exact Rcx 14 q (aG (rs1 q (bR q)) ⟨h,Zl,⟨Zp,Zp,Zp,Zp,⟨q,Zs _,q,q⟩,Zp,Zp,Zp,Zp,Zp,Zt⟩⟩)
 rintro rv st1 ⟨h,hr,hst⟩
 subst fo
 dsimp only at h
 refine WL.cast 47 q hr (WL.weak hst (Rl 1 q (Zn (Rcl 7 q ?_))))
 refine OG 5 52 57 5 5 ?_
 refine Rlc 2 q (Ci h q (λh=>?_) λh=>?_)
 exact Rcl 2 q (sS Z6 s4 Z2 (Rlx 5 q (cT J q (.inl ⟨h,q,⟨Zp,Zp,Zp,Zp,⟨q,Zs _,q,q⟩,Zp,Zp,Zp,Zp,Zp,Zt⟩⟩))))
 refine Rcl 5 q ?_
 obtain⟨fr,fv,h⟩:=ay h
 refine WL.inl (us:=[.n 0, .pt 7 0]) (λrv st'=>(fr ()=some r∧Le rv (.tu [])∧SLe st' [.row 4 [.d (D.b false)], .row 204 [.d (D.s c.1.name), .d (D.s c.1.fields)], .row 64 [.d (D.i .u8 x0.op), .n c21v178, .n c22v179, .n c23v180, .n c24v181, .n c25v182, .n 0], .row 211 [.pt 2 0], .lp f [.pt 0 0] .busy none, .row 204 [.d (D.s e.1.name), .d (D.s e.1.fields)], .row 215 [.fn (.func 161) [] [.pt 7 0], .fn (.func 162) [] [.pt 7 0], .n ((f157 x).1), .n ((f157 x).2)], .row 220 [.pt 2 6], .row 215 [.fn (.func 161) [] [.pt 7 0], .fn (.func 162) [] [.pt 7 0], .n 0, .n 0], .row 215 [.fn (.func 161) [] [.pt 7 0], .fn (.func 162) [] [.pt 7 0], .n ((f157 x).1), .n ((f157 x).2)]])) q q q q q ?_ (Zw q) q q ?_
 refine cI func162 λ_ _ _ _=>?_
 exact Rcl 4 q (sS Z6 s3 Z2 (Rlx 1 q (ce (aG (d3 q) ⟨h,Zl,⟨Zp,Zp,Zp,Zp,⟨q,Zs _,q,q⟩,Zp,Zp,Zp,Zp,Zp,Zt⟩⟩))))
 rintro rv st1 ⟨h,hr,hst⟩
 subst fv
 dsimp only at h
 exact WL.cast 60 q hr (WL.weak hst (WL.nil (Rxx 1 q (eS J q (.inr (⟨h,q,⟨Zp,Zp,Zp,Zp,⟨q,Zs _,q,q⟩,Zp,Zp,Zp,Zp,Zp,Zt⟩⟩))))))
 rintro rv st1 (⟨h,rfl,hst⟩|⟨h,rfl,hst⟩)
 subst e6
 dsimp only at h
 exact WL.weak hst (Rl 1 q (Zn (bW q (Rcx 5 q (aG (d3 q) (.inr (.inr (.inr (.inr (.inr (.inl ⟨c21v178,c22v179,c23v180,c24v181,c25v182,c26v183,e.1.name,e.1.fields,((f157 x).1),((f157 x).2),((f157 x).1),((f157 x).2),h,⟨Zp,Zp,Zp,Zp,⟨q,Zs _,q,q⟩,Zp,Zp,Zp,Zp,Zp,Zt⟩⟩)))))))))))
 subst e'
 dsimp only at h
 exact WL.weak hst (Rl 1 q (Zn (cU q (Rcx 7 q (WE.drop 6 (env':=[(0, .yl 4),(1, .pt 3 0),(18, .l E9 y),(19, .n (List.length y:Int)),(20, .n (IntKind.i64.wrap (A+1)))]) Sb q q (Nat.le_trans (Nat.le_of_eq C) (nbT q)) (Fn7 h))))))
 exact Rcx 4 q (ce (aG (d3 q) (.inr (.inr (.inr (.inr (.inr (.inr (⟨c21v178,c22v179,c23v180,c24v181,c25v182,c26v183,e.1.name,e.1.fields,h,⟨Zp,Zp,Zp,Zp,⟨q,Zs _,q,q⟩,Zp,Zt⟩⟩)))))))))
 rintro f rv st1 (⟨c21v81,c22v82,c23v83,c24v84,c25v85,c26v86,c50v87,c51v88,c62v89,c63v90,c92v91,c93v92,h,hst⟩|⟨c21v94,c22v95,c23v96,c24v97,c25v98,c26v99,c50v100,c51v101,c62v102,c63v103,c92v104,c93v105,h,hst⟩|⟨c21v107,c22v108,c23v109,c24v110,c25v111,c26v112,c50v113,c51v114,c62v115,c63v116,c92v117,c93v118,h,hst⟩|⟨c21v120,c22v121,c23v122,c24v123,c25v124,c26v125,c50v126,c51v127,c62v128,c63v129,c92v130,c93v131,h,hst⟩|⟨c21v133,c22v134,c23v135,c24v136,c25v137,c26v138,c50v139,c51v140,c62v141,c63v142,c92v143,c93v144,h,hst⟩|⟨c21v146,c22v147,c23v148,c24v149,c25v150,c26v151,c50v152,c51v153,c62v154,c63v155,c92v156,c93v157,h,hst⟩|⟨c21v159,c22v160,c23v161,c24v162,c25v163,c26v164,c50v165,c51v166,h,hst⟩)
 subst U
 dsimp only at h
 refine⟨_,_,_,_,_,hst,q,(by intro h;cases h),?_⟩
 refine Rxx 2 q ?_
 obtain rfl:=Oi h
 exact bm (rs1 q (lh q q a4 q)) Zl
 subst V
 dsimp only at h
 refine⟨_,_,_,_,_,hst,q,(by intro h;cases h),?_⟩
 refine Rxx 2 q ?_
 obtain rfl:=Oi h
 exact bm (rs1 q (lh q q a4 q)) Zl
 subst W
 dsimp only at h
 refine⟨_,_,_,_,_,hst,q,(by intro h;cases h),?_⟩
 refine Rxx 2 q ?_
 obtain rfl:=Oi h
 exact bm (rs1 q (lh q q a4 q)) Zl
 subst X
 dsimp only at h
 refine⟨_,_,_,_,_,hst,q,(by intro h;cases h),?_⟩
 refine Rxx 2 q ?_
 obtain rfl:=Oi h
 exact bm (rs1 q (lh q q a4 q)) Zl
 subst Y
 dsimp only at h
 refine⟨_,_,_,_,_,hst,q,(by intro h;cases h),?_⟩
 refine Rxx 2 q ?_
 obtain rfl:=Oi h
 exact bm (rs1 q (lh q q a4 q)) Zl
 subst Z
 dsimp only at h
 refine⟨_,_,_,_,_,hst,q,(by intro h;cases h),?_⟩
 refine Rxx 2 q ?_
 obtain rfl:=Oi h
 exact bm (rs1 q (lh q q a4 q)) Zl
 subst aa
 dsimp only at h
 refine⟨_,_,_,_,_,hst,q,(by intro h;cases h),?_⟩
 exact Rxx 1 q (cw ⟨_,_,_,_,_,_,_,_,h,Sb,Tv⟩)
 refine Rcl 5 q (Zq (ac p64 z64 q q) q (Zq (qt (xs:=[.int .u8 x0.op, .int .i64 c21v69, .int .i64 c22v70, .int .i64 c23v71, .int .i64 c24v72, .int .i64 c25v73, .int .i64 c26v74]) (ys:=[.int .u8 x0.op, .int .i64 0, .int .i64 0, .int .i64 0, .int .i64 0, .int .i64 0, .int .i64 0]) q64 q (bc (Zs _)) q (bc (Zs _)) q q q) q (sS Z6 s4 Z2 (Rlx 3 q ?_))))
 obtain rfl:=Oi h
 exact bm (rs1 q (lh q q a4 q)) Zl

theorem f111_c(y0:aR):Pu prog 111 [.ag (R64 y0)] (.b (f111 y0)):=by
 generalize h:f111 y0=r
 unfold f111 at h
 refine fI func111 λ_ _=>?_
 exact Rcl 2 q (Bd q q (Zs _) q (Rlx 12 q (FB h)))

theorem f112_c{t0:bp}{a:Int}{n2:Int}{r:Int×Bool}(h:f112 t0 a n2=some r):Pu prog 112 [.ag (R90 t0), .i .i64 a, .i .i64 n2] (.tu [.i .i64 r.1, .b r.2]):=by
 unfold f112 at h
 refine fI func112 λ_ _=>?_
 refine Rcl 2 q (Bd q q (Zs _) q (Rll 10 q ?_))
 apply WL.or 7 (t:=11) (d:=18)
 exact q
 intro k
 exact Rl 4 q (Zy (ab E67 t0.text.tasks e29 q q Zl) q q q (Rl 2 q (WL.nil ⟨q,[_,_,_,_,_,_,_],q,q,q⟩)))
 exact Rn 7 7
 refine Rl 1 q ?_
 refine OG 3 19 22 3 3 ?_
 refine Rl 1 q ?_
 obtain⟨f,g,h⟩:=ae h
 refine Gg 11 23 34 f g (λh=>?_) (λh=>?_) ?_
 exact On 11 11 h
 refine Rl 5 q ?_
 obtain⟨j,c,h⟩:=ae h
 exact Zy (aj e29 q Zl q (ai c) (av kN c) q) q q q (Rl 2 q (Zy (ab jt j.entries e65 q q Zl) q q q (On 2 11 h)))
 refine Rlc 2 q (Ci h q (λh=>Rcx 8 q (FA h)) λh=>?_)
 exact Rcl 8 q (Ix h e29 kN q Zl q q λm _ h=>(Rl 3 q (Ix h e65 j6 q Zl q q λe _ h=>(Rl 1 q (Al tX q (sS Z6 qI Z2 (Rll 6 q (Zq (ab E3 e.ins e43 q q Zl) q (Rl 2 q (Zq (ab E3 e.outs e43 q q Zl) q (Rlx 7 q (FA h))))))))))))

theorem f113_c{t0:bp}{p1:Int}{n2:Int}{r:Bool}(h:f113 t0 p1 n2=some r):Pu prog 113 [.ag (R90 t0), .i .i64 p1, .i .i64 n2] (.b r):=by
 unfold f113 at h
 refine fI func113 λ_ _=>?_
 refine Rcl 2 q (Bd q q (Zs _) q (Rll 8 q ?_))
 apply WL.and 7 (t:=9) (d:=16)
 exact q
 intro g
 exact Rl 4 q (Zy (ab cM t0.text.prots e30 q q Zl) q q q (Rl 2 q (WL.nil ⟨q,[_,_,_,_,_,_,_],q,q,q⟩)))
 exact Rn 7 7
 refine Rl 1 q ?_
 refine AG 3 17 20 3 3 ?_
 refine Rl 1 q ?_
 obtain⟨c,e,h⟩:=ae h
 refine Gg 11 21 32 c e (λh=>?_) (λh=>?_) ?_
 refine Rl 5 q ?_
 obtain⟨f,a,h⟩:=ae h
 exact Zy (aj e30 q Zl q (ai a) (av lz a) q) q q q (Rl 2 q (Zy (ab dh f.barriers iz q q Zl) q q q (On 2 11 h)))
 exact On 11 11 h
 exact Rlx 4 q (FA h)

theorem f67_c{t0:bp}{x1:aR}{r:Bool}(h:f67 t0 x1=some r):Pu prog 67 [.ag (R90 t0), .ag (R64 x1)] (.b r):=by
 unfold f67 at h
 refine fI func67 λ_ _=>?_
 refine Rcl 2 q (Bd q q (Zs _) q (Bd q q (Zs _) q (Rll 7 q ?_)))
 obtain⟨L,j,h⟩:=ae h
 refine wF Z4 (f110_c j) Lw Z3 (Rlc 3 q (Ci h q (λh=>?_) λh=>?_))
 exact Rcx 7 q (FA h)
 refine Rcc 10 q (Jn1 (λa=> [(2, .d (.pc (R90 t0))),(3, .d (.pc (R64 x1))),(14, .d (D.i .u8 x1.op)),(15, .d (D.b a))]) (λ_=> []) h (λ_ h=>?_) λa h=>?_)
 exact Rcc 6 q (Ci h q (λh=>Rcx 1 q (En1 h)) λh=>Rcx 4 q (En1 h))
 refine Ci h q (λh=>?_) (λh=>?_)
 refine Rcl 7 q ?_
 obtain⟨M,k,h⟩:=ae h
 exact wF Z4 (f96_c k) Lw Z3 (Rlx 6 q (FA h))
 refine Jn1 (λc=> [(2, .d (.pc (R90 t0))),(3, .d (.pc (R64 x1))),(14, .d (D.i .u8 x1.op)),(24, .d (D.b c))]) (λ_=> []) h (λ_ h=>?_) (λc h=>?_)
 exact Rcc 6 q (Ci h q (λh=>Rcx 1 q (En1 h)) λh=>Rcx 4 q (En1 h))
 refine Ci h q (λh=>?_) (λh=>?_)
 refine Rcl 9 q ?_
 obtain⟨N,p,h⟩:=ae h
 exact wF Z4 (f96_c p) Lw Z3 (Rlx 6 q (FA h))
 refine Jn1 (λe=> [(2, .d (.pc (R90 t0))),(3, .d (.pc (R64 x1))),(14, .d (D.i .u8 x1.op)),(35, .d (D.b e))]) (λ_=> []) h (λ_ h=>?_) (λe h=>?_)
 refine Rcc 6 q (Ci h q (λh=>Rcx 1 q (En1 h)) λh=>?_)
 exact Rcc 6 q (Ci h q (λh=>Rcx 1 q (En1 h)) λh=>Rcx 4 q (En1 h))
 refine Ci h q (λh=>?_) (λh=>?_)
 exact Rcl 5 q (wF Z4 (f98_c) Lw Z3 (Rlx 6 q (FA h)))
 refine Rcc 6 q (Ci h q (λh=>?_) λh=>?_)
 refine Rcl 16 q (Zq (ab E64 t0.text.insns e22 q q Zl) q (Rl 2 q ?_))
 obtain⟨w,x,h⟩:=ae h
 refine Gg 10 56 66 w x (λh=>?_) (λh=>?_) ?_
 refine Rl 6 q ?_
 replace h:=aT h
 obtain⟨y,h⟩:=h
 refine Zy (oT E64 t0.text.insns (l:=x1.to) (h:=(IntKind.i64.wrap (x1.to+x1.m))) e22 q Zl ⟨_,q⟩ ⟨_,q⟩ y λ_=>q) q q q ?_
 obtain⟨O,A,h⟩:=ae h
 exact WL.fn q q q q (f65_c _ _ 111 [] [] (λz0 _ h=>by obtain rfl:=inS h;exact f111_c z0) A) ⟨Zl,(Le.fnc Zt Zt),Zt⟩ (Wt.yes q q q) q q (On 2 10 h)
 exact On 10 10 h
 exact Rlx 6 q (FA h)
 refine Rcc 6 q (Ci h q (λh=>Rcx 14 q (FA h)) λh=>?_)
 refine Jn1 (λf=> [(2, .d (.pc (R90 t0))),(3, .d (.pc (R64 x1))),(14, .d (D.i .u8 x1.op)),(75, .d (D.b f))]) (λ_=> []) h (λ_ h=>?_) (λf h=>?_)
 refine Rcc 6 q (Ci h q (λh=>Rcx 1 q (En1 h)) λh=>?_)
 refine Rcc 6 q (Ci h q (λh=>Rcx 1 q (En1 h)) λh=>?_)
 exact Rcc 6 q (Ci h q (λh=>Rcx 1 q (En1 h)) λh=>Rcx 4 q (En1 h))
 refine Ci h q (λh=>?_) (λh=>?_)
 exact Rcl 7 q (Zq (ab E43 t0.text.lists e26 q q Zl) q (Rlx 7 q (FA h)))
 refine Rcc 6 q (Ci h q (λh=>Rcl 7 q (Zq (ab dl t0.text.selects e25 q q Zl) q (Rlx 7 q (FA h)))) λh=>?_)
 refine Rcc 6 q (Ci h q (λh=>?_) λh=>?_)
 refine Rcl 7 q ?_
 obtain⟨P,B,h⟩:=ae h
 refine wF Z4 (f112_c B) Lw Z3 (Rll 11 q ?_)
 obtain⟨C,E,h⟩:=ae h
 refine Gg 6 108 114 C E (λh=>?_) (λh=>?_) ?_
 refine Rl 4 q ?_
 obtain⟨Q,F,h⟩:=ae h
 exact WL.fn q q q q (f96_c F) Lw (Wt.yes q q q) q q (On 1 6 h)
 exact On 6 6 h
 exact Rlx 6 q (FA h)
 refine Rcc 6 q (Ci h q (λh=>?_) λh=>?_)
 refine Rcl 7 q ?_
 obtain⟨R,G,h⟩:=ae h
 refine wF Z4 (f112_c G) Lw Z3 (Rll 11 q ?_)
 apply WL.and 8 (t:=127) (d:=135)
 exact q
 intro S
 exact Rl 5 q (Zy (ab E64 t0.text.insns e22 q q Zl) q q q (Rl 2 q (WL.nil ⟨q,[_,_,_,_,_,_,_,_],q,q,q⟩)))
 exact Rn 8 8
 exact Rlx 6 q (FA h)
 refine Jn1 (λg=> [(2, .d (.pc (R90 t0))),(3, .d (.pc (R64 x1))),(14, .d (D.i .u8 x1.op)),(136, .d (D.b g))]) (λ_=> []) h (λ_ h=>?_) (λg h=>?_)
 exact Rcc 6 q (Ci h q (λh=>Rcx 1 q (En1 h)) λh=>Rcx 4 q (En1 h))
 refine Ci h q (λh=>?_) (λh=>?_)
 exact Rcl 7 q (Zq (ab cM t0.text.prots e30 q q Zl) q (Rlx 7 q (FA h)))
 refine Rcc 6 q (Ci h q (λh=>?_) λh=>?_)
 refine Rcl 7 q ?_
 obtain⟨T,H,h⟩:=ae h
 exact wF Z4 (f113_c H) Lw Z3 (Rlx 6 q (FA h))
 refine Rcc 6 q (Ci h q (λh=>?_) λh=>?_)
 refine Rcl 6 q ?_
 obtain⟨I,J,h⟩:=ae h
 refine Gg 7 159 166 I J (λh=>?_) (λh=>?_) ?_
 exact On 7 7 h
 refine Rl 5 q ?_
 obtain⟨U,K,h⟩:=ae h
 exact WL.fn q q q q (f113_c K) Lw (Wt.yes q q q) q q (On 1 7 h)
 exact Rlx 6 q (FA h)
 exact Rcx 9 q (FA h)

theorem f31_c(t0:ah){r:Bool}(h:f31 t0=some r):Pu prog 31 [.ag (R33 t0)] (.b r):=by
 unfold f31 at h
 refine fI func31 λ_ _=>?_
 refine Rcl 2 q (Bd q q (Zs _) q (Rll 6 q (Zq (ac p90 z90 q q) q (Al z90 q (sS Z6 s90 Z2 (St q (Rll 7 q (Zq (ab E64 t0.insns e22 q q Zl) q (Rl 2 q ?_)))))))))
 apply WL.or 5 (t:=12) (d:=17)
 exact q
 intro N
 exact Rl 2 q (Zy (ab E64 t0.insns e22 q q Zl) q q q (Rl 2 q (WL.nil ⟨q,[_,_,_,_,_],q,q,q⟩)))
 exact Rn 5 5
 refine Rlc 2 q (Ci h q (λh=>Rcx 7 q (FA h)) λh=>?_)
 refine Rcl 9 q (Zq (ab E64 t0.insns e22 q q Zl) q (Rl 1 q (Ix h e22 ef q Zl q q λO _ h=>(Rlc 5 q (Jn1 (λj=> [(1, .d (.pc (R33 t0))),(3, .pt 0 0),(27, .d (D.b j))]) (λ_=> [.row 90 (txA t0)]) h (λ_ h=>?_) λj h=>?_)))))
 refine Rcc 6 q (Ci h q (λh=>Rcx 1 q (En1 h)) λh=>?_)
 refine Rcc 6 q (Ci h q (λh=>Rcx 1 q (En1 h)) λh=>?_)
 exact Rcc 6 q (Ci h q (λh=>Rcx 1 q (En1 h)) λh=>Rcx 4 q (En1 h))
 refine Ci h q (λh=>?_) (λh=>?_)
 refine Rcc 3 q ?_
 refine Jn0 [(1, .d (.pc (R33 t0))),(3, .pt 0 0)] [.row 90 (txA t0), .os 35 1 0 [[.fn (.func 57) [.ag (txA t0)] []],[.fn (.func 58) [.ag (txA t0)] []],[.fn (.func 59) [.ag (txA t0)] []],[.fn (.func 60) [.ag (txA t0)] []],[.fn (.func 61) [.ag (txA t0)] []],[.fn (.func 62) [.ag (txA t0)] []],[.fn (.func 63) [.ag (txA t0)] []],[.fn (.func 64) [.ag (txA t0)] []]]] h (λ_ h=>?_) (λh=>?_)
 refine Rcl 18 q (WL.s ((NewOs.b (af l91 z35 q dC dC q q q dC)).does) (Zw q) q q (Zq (lQ e91 q q q) q (Rlc 4 q (j9 9 (Rcc 6 q (bW q (Rcl 6 q (Zq (be e91 q q q dC (by show(0:Int)<((8:Nat):Int);decide)) q (Zq (cu q q a35 q) q (Rll 6 q ?_))))))))))
 obtain⟨P,m,h⟩:=ae h
 refine wF Z4 (f57_c m) ⟨(bc (Zs _)),Zt⟩ Z3 (Rlc 3 q (Ci h q (λh=>?_) λh=>?_))
 exact Rcx 8 q (cO (Rxx 2 q (FA h)))
 refine Rcl 4 q (Zq (jv (c:=1) q q dC) q (Rlx 2 q (iC (WC.sub (env':=[(1, .d (.pc (R33 t0))),(3, .pt 0 0),(48, .os 1 0),(49, .n 8),(50, .n 1)]) Sb (Rcc 6 q (bW q (Rcl 6 q (Zq (be e91 q q q dC (by show(1:Int)<((8:Nat):Int);decide)) q (Zq (cu q q a35 q) q (Rll 6 q ?_))))))))))
 obtain⟨Q,p,h⟩:=ae h
 refine wF Z4 (f58_c p) ⟨(bc (Zs _)),Zt⟩ Z3 (Rlc 3 q (Ci h q (λh=>?_) λh=>?_))
 exact Rcx 8 q (cO (Rxx 2 q (FA h)))
 refine Rcl 4 q (Zq (jv (c:=2) q q dC) q (Rlx 2 q (iC (WC.sub (env':=[(1, .d (.pc (R33 t0))),(3, .pt 0 0),(48, .os 1 0),(49, .n 8),(50, .n 2)]) Sb (Rcc 6 q (bW q (Rcl 6 q (Zq (be e91 q q q dC (by show(2:Int)<((8:Nat):Int);decide)) q (Zq (cu q q a35 q) q (Rll 6 q ?_))))))))))
 obtain⟨R,w,h⟩:=ae h
 refine wF Z4 (f59_c w) ⟨(bc (Zs _)),Zt⟩ Z3 (Rlc 3 q (Ci h q (λh=>?_) λh=>?_))
 exact Rcx 8 q (cO (Rxx 2 q (FA h)))
 refine Rcl 4 q (Zq (jv (c:=3) q q dC) q (Rlx 2 q (iC (WC.sub (env':=[(1, .d (.pc (R33 t0))),(3, .pt 0 0),(48, .os 1 0),(49, .n 8),(50, .n 3)]) Sb (Rcc 6 q (bW q (Rcl 6 q (Zq (be e91 q q q dC (by show(3:Int)<((8:Nat):Int);decide)) q (Zq (cu q q a35 q) q (Rll 6 q ?_))))))))))
 obtain⟨S,x,h⟩:=ae h
 refine wF Z4 (f60_c x) ⟨(bc (Zs _)),Zt⟩ Z3 (Rlc 3 q (Ci h q (λh=>?_) λh=>?_))
 exact Rcx 8 q (cO (Rxx 2 q (FA h)))
 refine Rcl 4 q (Zq (jv (c:=4) q q dC) q (Rlx 2 q (iC (WC.sub (env':=[(1, .d (.pc (R33 t0))),(3, .pt 0 0),(48, .os 1 0),(49, .n 8),(50, .n 4)]) Sb (Rcc 6 q (bW q (Rcl 6 q (Zq (be e91 q q q dC (by show(4:Int)<((8:Nat):Int);decide)) q (Zq (cu q q a35 q) q (Rll 6 q ?_))))))))))
 obtain⟨T,y,h⟩:=ae h
 refine wF Z4 (f61_c y) ⟨(bc (Zs _)),Zt⟩ Z3 (Rlc 3 q (Ci h q (λh=>?_) λh=>?_))
 exact Rcx 8 q (cO (Rxx 2 q (FA h)))
 refine Rcl 4 q (Zq (jv (c:=5) q q dC) q (Rlx 2 q (iC (WC.sub (env':=[(1, .d (.pc (R33 t0))),(3, .pt 0 0),(48, .os 1 0),(49, .n 8),(50, .n 5)]) Sb (Rcc 6 q (bW q (Rcl 6 q (Zq (be e91 q q q dC (by show(5:Int)<((8:Nat):Int);decide)) q (Zq (cu q q a35 q) q (Rll 6 q ?_))))))))))
 obtain⟨U,A,h⟩:=ae h
 refine wF Z4 (f62_c A) ⟨(bc (Zs _)),Zt⟩ Z3 (Rlc 3 q (Ci h q (λh=>?_) λh=>?_))
 exact Rcx 8 q (cO (Rxx 2 q (FA h)))
 refine Rcl 4 q (Zq (jv (c:=6) q q dC) q (Rlx 2 q (iC (WC.sub (env':=[(1, .d (.pc (R33 t0))),(3, .pt 0 0),(48, .os 1 0),(49, .n 8),(50, .n 6)]) Sb (Rcc 6 q (bW q (Rcl 6 q (Zq (be e91 q q q dC (by show(6:Int)<((8:Nat):Int);decide)) q (Zq (cu q q a35 q) q (Rll 6 q ?_))))))))))
 obtain⟨V,B,h⟩:=ae h
 refine wF Z4 (f63_c B) ⟨(bc (Zs _)),Zt⟩ Z3 (Rlc 3 q (Ci h q (λh=>?_) λh=>?_))
 exact Rcx 8 q (cO (Rxx 2 q (FA h)))
 refine Rcl 4 q (Zq (jv (c:=7) q q dC) q (Rlx 2 q (iC (WC.sub (env':=[(1, .d (.pc (R33 t0))),(3, .pt 0 0),(48, .os 1 0),(49, .n 8),(50, .n 7)]) Sb (Rcc 6 q (bW q (Rcl 6 q (Zq (be e91 q q q dC (by show(7:Int)<((8:Nat):Int);decide)) q (Zq (cu q q a35 q) q (Rll 6 q ?_))))))))))
 obtain⟨W,C,h⟩:=ae h
 refine wF Z4 (f64_c C) ⟨(bc (Zs _)),Zt⟩ Z3 (Rlc 3 q (Ci h q (λh=>?_) λh=>?_))
 exact Rcx 8 q (cO (Rxx 2 q (FA h)))
 exact Rcl 4 q (Zq (jv (c:=8) q q dC) q (Rlx 2 q (iC (WC.sub (env':=[(1, .d (.pc (R33 t0))),(3, .pt 0 0),(48, .os 1 0),(49, .n 8),(50, .n 8)]) Sb (Rcc 6 q (cU q (Rcx 2 q (iY (Rxx 1 q (En0 h))))))))))
 refine Rcl 5 q ?_
 obtain⟨E,F,h⟩:=ay h
 refine WL.inl (us:=[.l E64 t0.insns, .fn (.func 66) [] [.pt 0 0]]) (λrv st'=>(∃(e:Bool),E e=some r∧Le rv (.d (D.b e))∧SLe st' [.row 90 (txA t0), .os 35 1 0 [[.fn (.func 57) [.ag (txA t0)] []],[.fn (.func 58) [.ag (txA t0)] []],[.fn (.func 59) [.ag (txA t0)] []],[.fn (.func 60) [.ag (txA t0)] []],[.fn (.func 61) [.ag (txA t0)] []],[.fn (.func 62) [.ag (txA t0)] []],[.fn (.func 63) [.ag (txA t0)] []],[.fn (.func 64) [.ag (txA t0)] []]]])) q q q q q ?_ (Zw q) q q ?_
 refine cI func65 λ_ _ _ X=>?_
 refine Rcl 9 q ?_
 obtain⟨k,G,h⟩:=ay h
 refine WL.inl (us:=[.l E64 t0.insns, .fn (.func 66) [] [.pt 0 0]]) (λrv st'=>(∃(a:Int),k a=some r∧Le rv (.n a)∧SLe st' [.row 90 (txA t0), .os 35 1 0 [[.fn (.func 57) [.ag (txA t0)] []],[.fn (.func 58) [.ag (txA t0)] []],[.fn (.func 59) [.ag (txA t0)] []],[.fn (.func 60) [.ag (txA t0)] []],[.fn (.func 61) [.ag (txA t0)] []],[.fn (.func 62) [.ag (txA t0)] []],[.fn (.func 63) [.ag (txA t0)] []],[.fn (.func 64) [.ag (txA t0)] []]]])) q q q q q ?_ (Zw q) q q ?_
 refine cI func109 λ_ _ _ Y=>?_
 refine Rcc 5 q ?_
 refine Jn0 [] [.row 90 (txA t0), .os 35 1 0 [[.fn (.func 57) [.ag (txA t0)] []],[.fn (.func 58) [.ag (txA t0)] []],[.fn (.func 59) [.ag (txA t0)] []],[.fn (.func 60) [.ag (txA t0)] []],[.fn (.func 61) [.ag (txA t0)] []],[.fn (.func 62) [.ag (txA t0)] []],[.fn (.func 63) [.ag (txA t0)] []],[.fn (.func 64) [.ag (txA t0)] []]]] h (λH h=>?_) (λh=>?_)
 refine Rcl 3 q (Zq (ab E64 t0.insns e22 q q Zl) q (Rlc 4 q ?_))
 refine Ln1 (λf=> [(0, .l E64 t0.insns),(1, .fn (.func 66) [] [.pt 0 0]),(7, .n (List.length t0.insns:Int)),(8, .n f)]) (λ_=> [.row 90 (txA t0), .os 35 1 0 [[.fn (.func 57) [.ag (txA t0)] []],[.fn (.func 58) [.ag (txA t0)] []],[.fn (.func 59) [.ag (txA t0)] []],[.fn (.func 60) [.ag (txA t0)] []],[.fn (.func 61) [.ag (txA t0)] []],[.fn (.func 62) [.ag (txA t0)] []],[.fn (.func 63) [.ag (txA t0)] []],[.fn (.func 64) [.ag (txA t0)] []]]]) (f31_l1 t0 k H) h (λ_ h=>by rw[f31_l1] at h;cases h) (λn f h=>?_)
 rw[f31_l1] at h
 refine Rcc 6 q (Ci h q (λh=>?_) λh=>?_)
 refine Rcl 15 q (Ix h e22 ef q Zl q q λI _ h=>(Rl 1 q ?_))
 obtain⟨J,K,h⟩:=ay h
 refine WL.inl (us:=[.d (.ag (R64 I)), .pt 0 0]) (λrv st'=>(∃(g:Bool),J g=some r∧Le rv (.d (D.b g))∧SLe st' [.row 90 (txA t0), .os 35 1 0 [[.fn (.func 57) [.ag (txA t0)] []],[.fn (.func 58) [.ag (txA t0)] []],[.fn (.func 59) [.ag (txA t0)] []],[.fn (.func 60) [.ag (txA t0)] []],[.fn (.func 61) [.ag (txA t0)] []],[.fn (.func 62) [.ag (txA t0)] []],[.fn (.func 63) [.ag (txA t0)] []],[.fn (.func 64) [.ag (txA t0)] []]]])) q q q q q ?_ (Zw q) q q ?_
 refine cI func66 λ_ _ _ _=>?_
 refine Rcl 2 q (Bd q q (Zs _) q (Rll 7 q ?_))
 obtain⟨L,M,h⟩:=ae h
 exact wF Z4 (f67_c M) ⟨(bc (Zs _)),Zl,Zt⟩ Z3 (Rlx 5 q (aG (rs1 q (bR q)) ⟨(!L),h,Zl,⟨Zp,Zf,Zt⟩⟩))
 rintro rv st1 ⟨g,h,hr,hst⟩
 subst K
 dsimp only at h
 refine WL.cast 16 q hr (WL.weak hst (Zn (Ci h q (λh=>?_) λh=>?_)))
 exact Rcx 12 q (aG (rs1 q (bR q)) ⟨f,h,Zl,⟨Zp,Zf,Zt⟩⟩)
 exact Rcx 7 q (Fn1 h)
 exact Rcx 4 q (En0 h)
 exact Rcx 6 q (aG (rs1 q (bR q)) ⟨(-1),h,Zl,⟨Zp,Zf,Zt⟩⟩)
 rintro rv st1 ⟨a,h,hr,hst⟩
 subst G
 dsimp only at h
 exact WL.cast 7 q hr (WL.weak hst (Rl 2 q (Zn (Rcx 1 q (aG (rs1 q (bR q)) ⟨(decide (a≥0)),h,Zl,⟨Zp,Zf,Zt⟩⟩)))))
 rintro rv st1 ⟨e,h,hr,hst⟩
 subst F
 dsimp only at h
 exact WL.cast 61 q hr (WL.weak hst (Rl 2 q (Zn (Rcx 1 q (FA h)))))
 exact Rcx 8 q (FA h)

theorem f126_c(s0:lH)(a:aQ→oB)(g1:FuncId)(c e:lD)(g:∀(y0:aQ)(r:Bool),a y0=some r→Pu prog g1 (c++ [.ag (wa y0)]++e) (.b r)){r:Int}(h:f126 s0 a=some r):Pu prog 126 [.sl (List.map cB s0), .fnc (.func g1) c e] (.i .i64 r):=by
 unfold f126 at h
 refine fI func126 λ_ _=>?_
 refine WC.cast 1 q (eZ _ _ _) (Rcc 5 q (Jn0 [] [] h (λj h=>?_) λh=>?_))
 refine Rcl 3 q (Zq (ab cB s0 e23 q q Zl) q (Rlc 4 q (Ln1 (λf=> [(0, .l cB s0),(1, .fn (.func g1) (List.map AV.d c) (List.map AV.d e)),(7, .n (List.length s0:Int)),(8, .n f)]) (λ_=> []) (f126_l1 s0 a j) h (λ_ h=>by rw[f126_l1] at h;cases h) λn f h=>?_)))
 rw[f126_l1] at h
 refine Rcc 6 q (Ci h q (λh=>?_) λh=>?_)
 refine Rcl 15 q (Ix h e23 iw q Zl q q λm _ h=>(Rl 1 q ?_))
 obtain⟨p,k,h⟩:=ae h
 refine WL.fn q q q q (g _ _ k) (j0 Lw) (Zw q) q q (Rlc 2 q (Ci h q (λh=>?_) λh=>?_))
 exact Rcx 12 q (FA h)
 exact Rcx 7 q (Fn1 h)
 exact Rcx 4 q (En0 h)
 exact Rcx 6 q (FA h)

theorem f127_c(h0:aQ)(a:Int)(c:Bool):Pu prog 127 [.ag (wa h0), .pc (E3 a), .pc (E4 c)] (.b (f127 h0 a c)):=by
 generalize h:f127 h0 a c=r
 unfold f127 at h
 refine fI func127 λ_ _=>?_
 refine Rcl 2 q (Bd q q (Zs _) q (Rll 10 q ?_))
 refine AG 5 9 14 5 5 ?_
 refine Rl 1 q ?_
 apply WL.and 7 (t:=15) (d:=22)
 exact q
 intro e
 refine Rl 3 q ?_
 refine OG 3 18 21 3 3 ?_
 exact Rn 1 5
 exact Rn 7 7
 exact Rlx 4 q (FB h)

theorem f75_c{t0:ah}{at1:Int}{a:Bool}{r:Int×Bool}(h:f75 t0 at1 a=some r):Pu prog 75 [.ag (R33 t0), .i .i64 at1, .b a] (.tu [.i .i64 r.1, .b r.2]):=by
 unfold f75 at h
 refine fI func75 λ_ _=>?_
 refine Rcl 2 q (Bd q q (Zs _) q (WL.s ((hZ q q (by exact(show Les [.n at1] (List.map AV.d [.i .i64 at1]) from Lw))).does) (Zw q) q q (WL.s ((hZ q q (by exact(show Les [.d (D.b a)] (List.map AV.d [.b a]) from Lw))).does) (Zw q) q q (Rll 9 q ?_))))
 obtain⟨e,c,h⟩:=ae h
 refine wF Z4 (f126_c _ _ 127 [] [(.pc (E3 at1)),(.pc (E4 a))] (λz0 _ h=>by obtain rfl:=inS h;exact f127_c z0 at1 a) c) ⟨Zl,(Le.fnc Zt Lw),Zt⟩ Z3 (Rlc 10 q (Ci h q (λh=>?_) λh=>?_))
 exact Rcx 8 q (FA h)
 exact Rcl 7 q (Ix h e23 iw q Zl q q λf _ h=>(Rlx 7 q (FA h)))

theorem f76_c{o0:Int}:Pu prog 76 [.i .u8 o0] (.b (f76 o0)):=by
 generalize h:f76 o0=r
 unfold f76 at h
 refine fI func76 λ_ _=>?_
 refine Rcc 12 q (Jn1 (λa=> [(4, .d (D.b a))]) (λ_=> []) h (λ_ h=>?_) λa h=>?_)
 refine Rcc 6 q (Ci h q (λh=>Rcx 1 q (En1 h)) λh=>?_)
 refine Rcc 6 q (Ci h q (λh=>Rcx 1 q (En1 h)) λh=>?_)
 refine Rcc 6 q (Ci h q (λh=>Rcx 1 q (En1 h)) λh=>?_)
 refine Rcc 6 q (Ci h q (λh=>Rcx 1 q (En1 h)) λh=>?_)
 refine Rcc 6 q (Ci h q (λh=>Rcx 1 q (En1 h)) λh=>?_)
 refine Rcc 6 q (Ci h q (λh=>Rcx 1 q (En1 h)) λh=>?_)
 refine Rcc 6 q (Ci h q (λh=>Rcx 1 q (En1 h)) λh=>?_)
 refine Rcc 6 q (Ci h q (λh=>Rcx 1 q (En1 h)) λh=>?_)
 exact Rcc 6 q (Ci h q (λh=>Rcx 1 q (En1 h)) λh=>Rcx 4 q (En1 h))
 refine Ci h q (λh=>?_) (λh=>?_)
 exact Rcx 8 q (FB h)
 exact Rcx 9 q (FB h)

theorem f39_c{t0:ah}{at1:Int}{r:lI}(h:f39 t0 at1=some r):Pu prog 39 [.ag (R33 t0), .i .i64 at1] (.sl (List.map E3 r)):=by
 unfold f39 at h
 refine fI func39 λ_ _=>?_
 refine Rcl 2 q (Bd q q (Zs _) q (Rll 5 q (Al z43 q (Rll 13 q (Ix h e22 ef q Zl q q λc _ h=>(Rl 1 q (Al z64 q (sS Z6 s64 Z2 (Rlc 2 q (WC.nil_cell 0 0 3 1 q q ?_))))))))))
 replace h:=ay h
 obtain⟨N,O,h⟩:=h
 refine bf (λenv' st'=>∃(f:lI),∃(g:Nat),N f=some r∧Sub [(1, .n at1),(2, .d (.pc (R33 t0))),(5, .pt 0 0),(6, .fn (.func 74) [] [.pt 0 0]),(7, .pt 1 0)] env'∧SLe st' [.row 43 [.os 2 g], .row 64 [.d (D.i .u8 c.op), .n c.d, .n c.a, .n c.b, .n c.n, .n c.m, .n c.to], .os 3 1 g (eM E3 f)]) ?_ ?_
 refine Rcc 7 q (Jn1 (λJ=> [(1, .n at1),(2, .d (.pc (R33 t0))),(5, .pt 0 0),(6, .fn (.func 74) [] [.pt 0 0]),(7, .pt 1 0),(30, .d (D.b J))]) (λ_=> [.row 43 [.os 2 0], .row 64 [.d (D.i .u8 c.op), .n c.d, .n c.a, .n c.b, .n c.n, .n c.m, .n c.to], .os 3 1 0 (eM E3 [])]) h (λ_ h=>?_) λJ h=>?_)
 refine Rcc 6 q (Ci h q (λh=>Rcx 1 q (En1 h)) λh=>?_)
 refine Rcc 6 q (Ci h q (λh=>Rcx 1 q (En1 h)) λh=>?_)
 refine Rcc 6 q (Ci h q (λh=>Rcx 1 q (En1 h)) λh=>?_)
 refine Rcc 6 q (Ci h q (λh=>Rcx 1 q (En1 h)) λh=>?_)
 exact Rcc 6 q (Ci h q (λh=>Rcx 1 q (En1 h)) λh=>Rcx 4 q (En1 h))
 refine Ci h q (λh=>?_) (λh=>?_)
 exact Rcx 2 q (En2 h)
 refine Rcl 8 q (Zq (ab E64 t0.insns e22 q q Zl) q (Rl 1 q ?_))
 obtain⟨P,Q,h⟩:=ay h
 obtain⟨R,S,h⟩:=ay h
 refine WL.inl (us:=[.n (IntKind.i64.wrap (at1+1)), .d (D.b (decide ((IntKind.i64.wrap (at1+1))<(List.length t0.insns:Int)))), .pt 0 0]) (λrv st'=>(P ()=some r∧Le rv (.tu [])∧SLe st' [.row 43 [.os 2 1], .row 64 [.d (D.i .u8 c.op), .n c.d, .n c.a, .n c.b, .n c.n, .n c.m, .n c.to], .os 3 1 1 (eM E3 ([]++ [(IntKind.i64.wrap (at1+1))])), .os 3 1 0 (eM E3 [(IntKind.i64.wrap (at1+1))])])∨(R ()=some r∧Le rv (.tu [])∧SLe st' [.row 43 [.os 2 0], .row 64 [.d (D.i .u8 c.op), .n c.d, .n c.a, .n c.b, .n c.n, .n c.m, .n c.to], .os 3 1 0 (eM E3 [])])) q q q q q ?_ (Zw q) q q ?_
 refine cI func74 λ_ _ _ _=>?_
 refine Rcc 5 q (Ci h q (λh=>?_) λh=>?_)
 refine Rcl 3 q (WL.s ((NewOs.b (af l43 z3 q dC dC q q q dC)).does) (Zw q) q q ?_)
 replace h:=aT h
 obtain⟨T,h⟩:=h
 exact WL.s (bj E3 [] [(IntKind.i64.wrap (at1+1))] l43 z3 q dC q q q q (Src.own q) (λ_=>q) (λ_=>q) T) (Zw q) q q (WL.s0 (bV q q q (cS q) s43 q) (Zw q) q (Rlx 1 q (ce (aG (d3 q) (.inl ⟨h,Zl,⟨Zp,Zp,Zf,Zf,Zt⟩⟩)))))
 exact Rcx 1 q (ce (aG (d3 q) (.inr (⟨h,Zl,⟨Zp,Zp,Zf,Zt⟩⟩))))
 rintro rv st1 (⟨h,hr,hst⟩|⟨h,hr,hst⟩)
 subst Q
 dsimp only at h
 exact WL.cast 29 q hr (WL.weak hst (WL.nil (Rxx 1 q (WE.drop 3 (env':=[(1, .n at1),(2, .d (.pc (R33 t0))),(5, .pt 0 0),(6, .fn (.func 74) [] [.pt 0 0]),(7, .pt 1 0)]) Sb q Kv (Nat.zero_le _) (En2 h)))))
 subst S
 dsimp only at h
 exact WL.cast 29 q hr (WL.weak hst (WL.nil (Rxx 1 q (En2 h))))
 rintro env1 st1 ⟨f,g,h,hsub,hst⟩
 subst O
 dsimp only at h
 refine WC.sub hsub (WC.weak hst ?_)
 replace h:=ay h
 obtain⟨K,U,h⟩:=h
 refine bf (λenv' st'=>∃(w:lI),∃(p:Nat),K w=some r∧Sub [(1, .n at1),(2, .d (.pc (R33 t0))),(5, .pt 0 0),(6, .fn (.func 74) [] [.pt 0 0]),(7, .pt 1 0)] env'∧SLe st' [.row 43 [.os 2 p], .row 64 [.d (D.i .u8 c.op), .n c.d, .n c.a, .n c.b, .n c.n, .n c.m, .n c.to], .os 3 1 p (eM E3 w)]) ?_ ?_
 refine Rcc 7 q (Jn1 (λL=> [(1, .n at1),(2, .d (.pc (R33 t0))),(5, .pt 0 0),(6, .fn (.func 74) [] [.pt 0 0]),(7, .pt 1 0),(38, .d (D.i .u8 c.op)),(39, .d (D.b L))]) (λ_=> [.row 43 [.os 2 g], .row 64 [.d (D.i .u8 c.op), .n c.d, .n c.a, .n c.b, .n c.n, .n c.m, .n c.to], .os 3 1 g (eM E3 f)]) h (λ_ h=>?_) λL h=>?_)
 refine Rcc 6 q (Ci h q (λh=>Rcx 1 q (En1 h)) λh=>?_)
 refine Rcc 6 q (Ci h q (λh=>Rcx 1 q (En1 h)) λh=>?_)
 exact Rcc 6 q (Ci h q (λh=>Rcx 1 q (En1 h)) λh=>Rcx 4 q (En1 h))
 refine Ci h q (λh=>?_) (λh=>?_)
 refine Rcl 4 q ?_
 obtain⟨V,W,h⟩:=ay h
 refine WL.inl (us:=[.n c.to, .d (D.b true), .pt 0 0]) (λrv st'=>(V ()=some r∧Le rv (.tu [])∧SLe st' [.row 43 [.os 2 (g+1)], .row 64 [.d (D.i .u8 c.op), .n c.d, .n c.a, .n c.b, .n c.n, .n c.m, .n c.to], .os 3 1 (g+1) (eM E3 (f++ [c.to])), .os 3 1 0 (eM E3 [c.to])])) q q q q q ?_ (Zw q) q q ?_
 refine cI func74 λ_ _ _ _=>?_
 refine Rcc 5 q (bW q (Rcl 3 q (WL.s ((NewOs.b (af l43 z3 q dC dC q q q dC)).does) (Zw q) q q ?_)))
 replace h:=aT h
 obtain⟨X,h⟩:=h
 exact WL.s (bj E3 f [c.to] l43 z3 q dC q q q q (Src.own q) (λ_=>q) (λ_=>q) X) (Zw q) q q (WL.s0 (bV q q q (cS q) s43 q) (Zw q) q (Rlx 1 q (ce (aG (d3 q) ⟨h,Zl,⟨Zp,Zp,Zf,Zf,Zt⟩⟩))))
 rintro rv st1 ⟨h,hr,hst⟩
 subst W
 dsimp only at h
 exact WL.cast 47 q hr (WL.weak hst (WL.nil (Rxx 1 q (WE.drop 3 (env':=[(1, .n at1),(2, .d (.pc (R33 t0))),(5, .pt 0 0),(6, .fn (.func 74) [] [.pt 0 0]),(7, .pt 1 0)]) Sb q Kv (Nat.zero_le _) (En2 h)))))
 refine Rcc 6 q (Ci h q (λh=>?_) λh=>?_)
 refine Rcc 8 q (bq (λn env' st'=>∃(k:Int),∃(y:lI),∃(A:Nat),f39_l1 c K n k y=some r∧Sub [(1, .n at1),(2, .d (.pc (R33 t0))),(5, .pt 0 0),(6, .fn (.func 74) [] [.pt 0 0]),(7, .pt 1 0),(51, .n c.m),(52, .n k)] env'∧SLe st' [.row 43 [.os 2 A], .row 64 [.d (D.i .u8 c.op), .n c.d, .n c.a, .n c.b, .n c.n, .n c.m, .n c.to], .os 3 1 A (eM E3 y)]) (λn=>n) (Int.toNat (c.m - 0)+1) ⟨0,f,_,h,(Sx q (Sx q (Sx q (Sx q (Sx q (Sx q (Sx q (Sub.nil _)))))))),⟨Zp,Zp,Zf,Zt⟩⟩ ?_)
 rintro n env1 st1 ⟨k,y,A,h,hsub,hst⟩
 rcases n with _|n
 rw[f39_l1] at h;cases h
 rw[f39_l1] at h
 refine WC.sub hsub (WC.weak hst ?_)
 refine Rcc 6 q (Ci h q (λh=>?_) λh=>?_)
 refine Rcl 16 q ?_
 obtain⟨Y,Z,h⟩:=ay h
 refine WL.inl (us:=[.n (IntKind.i64.wrap (c.to+k)), .d (D.b true), .pt 0 0]) (λrv st'=>(Y ()=some r∧Le rv (.tu [])∧SLe st' [.row 43 [.os 2 (A+1)], .row 64 [.d (D.i .u8 c.op), .n c.d, .n c.a, .n c.b, .n c.n, .n c.m, .n c.to], .os 3 1 (A+1) (eM E3 (y++ [(IntKind.i64.wrap (c.to+k))])), .os 3 1 0 (eM E3 [(IntKind.i64.wrap (c.to+k))])])) q q q q q ?_ (Zw q) q q ?_
 refine cI func74 λ_ _ _ _=>?_
 refine Rcc 5 q (bW q (Rcl 3 q (WL.s ((NewOs.b (af l43 z3 q dC dC q q q dC)).does) (Zw q) q q ?_)))
 replace h:=aT h
 obtain⟨aa,h⟩:=h
 exact WL.s (bj E3 y [(IntKind.i64.wrap (c.to+k))] l43 z3 q dC q q q q (Src.own q) (λ_=>q) (λ_=>q) aa) (Zw q) q q (WL.s0 (bV q q q (cS q) s43 q) (Zw q) q (Rlx 1 q (ce (aG (d3 q) ⟨h,Zl,⟨Zp,Zp,Zf,Zf,Zt⟩⟩))))
 rintro rv st1 ⟨h,hr,hst⟩
 subst Z
 dsimp only at h
 exact WL.cast 60 q hr (WL.weak hst (WL.nil (Rxx 6 q (WE.drop 3 (env':=[(1, .n at1),(2, .d (.pc (R33 t0))),(5, .pt 0 0),(6, .fn (.func 74) [] [.pt 0 0]),(7, .pt 1 0),(51, .n c.m),(52, .n (IntKind.i64.wrap (k+1)))]) Sb q Kv (Nat.zero_le _) (Fn3 h)))))
 exact Rcx 5 q (En2 h)
 refine Rcc 6 q (Ci h q (λh=>?_) λh=>?_)
 refine Rcl 6 q (Ix h e25 oR q Zl q q λe _ h=>(Rl 1 q (Al yN q (sS Z6 zf Z2 (Rlc 2 q ?_)))))
 replace h:=ay h
 obtain⟨M,ad,h⟩:=h
 refine bf (λenv' st'=>∃(x:lI),∃(t:Nat),M x=some r∧Sub [(1, .n at1),(2, .d (.pc (R33 t0))),(5, .pt 0 0),(6, .fn (.func 74) [] [.pt 0 0]),(7, .pt 1 0),(9, .pt 3 0)] env'∧SLe st' [.row 43 [.os 2 t], .row 64 [.d (D.i .u8 c.op), .n c.d, .n c.a, .n c.b, .n c.n, .n c.m, .n c.to], .os 3 1 t (eM E3 x), .row 101 [.l d4 e.alts, .n e.obj, .n e.else_]]) ?_ ?_
 refine Rcl 4 q (Zq (ab d4 e.alts e99 q q Zl) q (Rlc 4 q (bq (λn env' st'=>∃(G:Int),∃(B:lI),∃(C:Nat),f39_l2 e M n G B=some r∧Sub [(1, .n at1),(2, .d (.pc (R33 t0))),(5, .pt 0 0),(6, .fn (.func 74) [] [.pt 0 0]),(7, .pt 1 0),(9, .pt 3 0),(71, .l d4 e.alts),(72, .n (List.length e.alts:Int)),(73, .n G)] env'∧SLe st' [.row 43 [.os 2 C], .row 64 [.d (D.i .u8 c.op), .n c.d, .n c.a, .n c.b, .n c.n, .n c.m, .n c.to], .os 3 1 C (eM E3 B), .row 101 [.l d4 e.alts, .n e.obj, .n e.else_]]) (λn=>n) (Int.toNat ((List.length e.alts:Int) - 0)+1) ⟨0,f,_,h,(Sx q (Sx q (Sx q (Sx q (Sx q (Sx q (Sx q (Sx q (Sx q (Sub.nil _)))))))))),⟨Zp,Zp,Zf,Zp,Zt⟩⟩ ?_)))
 rintro n env1 st1 ⟨G,B,C,h,hsub,hst⟩
 rcases n with _|n
 rw[f39_l2] at h;cases h
 rw[f39_l2] at h
 refine WC.sub hsub (WC.weak hst ?_)
 refine Rcc 6 q (Ci h q (λh=>?_) λh=>?_)
 refine Rcl 6 q (Ix h e99 oQ q Zl q q λj _ h=>(Rl 1 q (Al z104 q (sS Z6 s104 Z2 (Rll 6 q ?_)))))
 obtain⟨a0,a1,h⟩:=ay h
 refine WL.inl (us:=[.n j.at_, .d (D.b true), .pt 0 0]) (λrv st'=>(a0 ()=some r∧Le rv (.tu [])∧SLe st' [.row 43 [.os 2 (C+1)], .row 64 [.d (D.i .u8 c.op), .n c.d, .n c.a, .n c.b, .n c.n, .n c.m, .n c.to], .os 3 1 (C+1) (eM E3 (B++ [j.at_])), .row 101 [.l d4 e.alts, .n e.obj, .n e.else_], .row 104 [.d (D.i .u8 j.kind), .n j.entry, .n j.guard, .n j.time, .n j.at_], .os 3 1 0 (eM E3 [j.at_])])) q q q q q ?_ (Zw q) q q ?_
 refine cI func74 λ_ _ _ _=>?_
 refine Rcc 5 q (bW q (Rcl 3 q (WL.s ((NewOs.b (af l43 z3 q dC dC q q q dC)).does) (Zw q) q q ?_)))
 replace h:=aT h
 obtain⟨a6,h⟩:=h
 exact WL.s (bj E3 B [j.at_] l43 z3 q dC q q q q (Src.own q) (λ_=>q) (λ_=>q) a6) (Zw q) q q (WL.s0 (bV q q q (cS q) s43 q) (Zw q) q (Rlx 1 q (ce (aG (d3 q) ⟨h,Zl,⟨Zp,Zp,Zf,Zp,Zp,Zf,Zt⟩⟩))))
 rintro rv st1 ⟨h,hr,hst⟩
 subst a1
 dsimp only at h
 exact WL.cast 80 q hr (WL.weak hst (WL.nil (Rxx 6 q (WE.drop 4 (env':=[(1, .n at1),(2, .d (.pc (R33 t0))),(5, .pt 0 0),(6, .fn (.func 74) [] [.pt 0 0]),(7, .pt 1 0),(9, .pt 3 0),(71, .l d4 e.alts),(72, .n (List.length e.alts:Int)),(73, .n (IntKind.i64.wrap (G+1)))]) Sb q Kv (Nat.zero_le _) (Fn3 h)))))
 exact Rcx 4 q (En2 h)
 rintro env1 st1 ⟨x,t,h,hsub,hst⟩
 subst ad
 dsimp only at h
 refine WC.sub hsub (WC.weak hst ?_)
 refine Rcl 7 q ?_
 obtain⟨a7,a8,h⟩:=ay h
 obtain⟨a',bb,h⟩:=ay h
 refine WL.inl (us:=[.n e.else_, .d (D.b (decide (e.else_≥0))), .pt 0 0]) (λrv st'=>(a7 ()=some r∧Le rv (.tu [])∧SLe st' [.row 43 [.os 2 (t+1)], .row 64 [.d (D.i .u8 c.op), .n c.d, .n c.a, .n c.b, .n c.n, .n c.m, .n c.to], .os 3 1 (t+1) (eM E3 (x++ [e.else_])), .row 101 [.l d4 e.alts, .n e.obj, .n e.else_], .os 3 1 0 (eM E3 [e.else_])])∨(a' ()=some r∧Le rv (.tu [])∧SLe st' [.row 43 [.os 2 t], .row 64 [.d (D.i .u8 c.op), .n c.d, .n c.a, .n c.b, .n c.n, .n c.m, .n c.to], .os 3 1 t (eM E3 x), .row 101 [.l d4 e.alts, .n e.obj, .n e.else_]])) q q q q q ?_ (Zw q) q q ?_
 refine cI func74 λ_ _ _ _=>?_
 refine Rcc 5 q (Ci h q (λh=>?_) λh=>?_)
 refine Rcl 3 q (WL.s ((NewOs.b (af l43 z3 q dC dC q q q dC)).does) (Zw q) q q ?_)
 replace h:=aT h
 obtain⟨bk,h⟩:=h
 exact WL.s (bj E3 x [e.else_] l43 z3 q dC q q q q (Src.own q) (λ_=>q) (λ_=>q) bk) (Zw q) q q (WL.s0 (bV q q q (cS q) s43 q) (Zw q) q (Rlx 1 q (ce (aG (d3 q) (.inl ⟨h,Zl,⟨Zp,Zp,Zf,Zp,Zf,Zt⟩⟩)))))
 exact Rcx 1 q (ce (aG (d3 q) (.inr (⟨h,Zl,⟨Zp,Zp,Zf,Zp,Zt⟩⟩))))
 rintro rv st1 (⟨h,hr,hst⟩|⟨h,hr,hst⟩)
 subst a8
 dsimp only at h
 exact WL.cast 88 q hr (WL.weak hst (WL.nil (Rxx 1 q (WE.drop 3 (env':=[(1, .n at1),(2, .d (.pc (R33 t0))),(5, .pt 0 0),(6, .fn (.func 74) [] [.pt 0 0]),(7, .pt 1 0)]) Sb q Kv (Nat.zero_le _) (En2 h)))))
 subst bb
 dsimp only at h
 exact WL.cast 88 q hr (WL.weak hst (WL.nil (Rxx 1 q (WE.drop 3 (env':=[(1, .n at1),(2, .d (.pc (R33 t0))),(5, .pt 0 0),(6, .fn (.func 74) [] [.pt 0 0]),(7, .pt 1 0)]) Sb q Kv (Nat.zero_le _) (En2 h)))))
 refine Rcc 6 q (Ci h q (λh=>?_) λh=>?_)
 refine Rcl 4 q ?_
 obtain⟨E,bo,h⟩:=ae h
 refine wF Z4 (f75_c bo) Lw Z3 (Rl 2 q ?_)
 obtain⟨bs,b0,h⟩:=ay h
 obtain⟨b1,b2,h⟩:=ay h
 refine WL.inl (us:=[.n E.1, .d (D.b E.2), .pt 0 0]) (λrv st'=>(bs ()=some r∧Le rv (.tu [])∧SLe st' [.row 43 [.os 2 (g+1)], .row 64 [.d (D.i .u8 c.op), .n c.d, .n c.a, .n c.b, .n c.n, .n c.m, .n c.to], .os 3 1 (g+1) (eM E3 (f++ [E.1])), .os 3 1 0 (eM E3 [E.1])])∨(b1 ()=some r∧Le rv (.tu [])∧SLe st' [.row 43 [.os 2 g], .row 64 [.d (D.i .u8 c.op), .n c.d, .n c.a, .n c.b, .n c.n, .n c.m, .n c.to], .os 3 1 g (eM E3 f)])) q q q q q ?_ (Zw q) q q ?_
 refine cI func74 λ_ _ _ _=>?_
 refine Rcc 5 q (Ci h q (λh=>?_) λh=>?_)
 refine Rcl 3 q (WL.s ((NewOs.b (af l43 z3 q dC dC q q q dC)).does) (Zw q) q q ?_)
 replace h:=aT h
 obtain⟨b3,h⟩:=h
 exact WL.s (bj E3 f [E.1] l43 z3 q dC q q q q (Src.own q) (λ_=>q) (λ_=>q) b3) (Zw q) q q (WL.s0 (bV q q q (cS q) s43 q) (Zw q) q (Rlx 1 q (ce (aG (d3 q) (.inl ⟨h,Zl,⟨Zp,Zp,Zf,Zf,Zt⟩⟩)))))
 exact Rcx 1 q (ce (aG (d3 q) (.inr (⟨h,Zl,⟨Zp,Zp,Zf,Zt⟩⟩))))
 rintro rv st1 (⟨h,hr,hst⟩|⟨h,hr,hst⟩)
 subst b0
 dsimp only at h
 exact WL.cast 97 q hr (WL.weak hst (WL.nil (Rxx 1 q (WE.drop 3 (env':=[(1, .n at1),(2, .d (.pc (R33 t0))),(5, .pt 0 0),(6, .fn (.func 74) [] [.pt 0 0]),(7, .pt 1 0)]) Sb q Kv (Nat.zero_le _) (En2 h)))))
 subst b2
 dsimp only at h
 exact WL.cast 97 q hr (WL.weak hst (WL.nil (Rxx 1 q (En2 h))))
 exact Rcx 2 q (En2 h)
 rintro env1 st1 ⟨w,p,h,hsub,hst⟩
 subst U
 dsimp only at h
 refine WC.sub hsub (WC.weak hst ?_)
 replace h:=ay h
 obtain⟨b4,b5,h⟩:=h
 refine bf (λenv' st'=>∃(H:lI),∃(I:Nat),b4 H=some r∧Sub [(5, .pt 0 0)] env'∧SLe st' [.row 43 [.os 2 I], .row 64 [.d (D.i .u8 c.op), .n c.d, .n c.a, .n c.b, .n c.n, .n c.m, .n c.to], .os 3 1 I (eM E3 H)]) ?_ ?_
 refine Rcl 4 q (wF Z4 (f76_c) Lw Z3 (Rlc 2 q (Ci h q (λh=>?_) λh=>?_)))
 refine Rcl 4 q ?_
 obtain⟨F,b6,h⟩:=ae h
 refine wF Z4 (f75_c b6) Lw Z3 (Rl 2 q ?_)
 obtain⟨b7,b8,h⟩:=ay h
 obtain⟨b9,b',h⟩:=ay h
 refine WL.inl (us:=[.n F.1, .d (D.b F.2), .pt 0 0]) (λrv st'=>(b7 ()=some r∧Le rv (.tu [])∧SLe st' [.row 43 [.os 2 (p+1)], .row 64 [.d (D.i .u8 c.op), .n c.d, .n c.a, .n c.b, .n c.n, .n c.m, .n c.to], .os 3 1 (p+1) (eM E3 (w++ [F.1])), .os 3 1 0 (eM E3 [F.1])])∨(b9 ()=some r∧Le rv (.tu [])∧SLe st' [.row 43 [.os 2 p], .row 64 [.d (D.i .u8 c.op), .n c.d, .n c.a, .n c.b, .n c.n, .n c.m, .n c.to], .os 3 1 p (eM E3 w)])) q q q q q ?_ (Zw q) q q ?_
 refine cI func74 λ_ _ _ _=>?_
 refine Rcc 5 q (Ci h q (λh=>?_) λh=>?_)
 refine Rcl 3 q (WL.s ((NewOs.b (af l43 z3 q dC dC q q q dC)).does) (Zw q) q q ?_)
 replace h:=aT h
 obtain⟨ca,h⟩:=h
 exact WL.s (bj E3 w [F.1] l43 z3 q dC q q q q (Src.own q) (λ_=>q) (λ_=>q) ca) (Zw q) q q (WL.s0 (bV q q q (cS q) s43 q) (Zw q) q (Rlx 1 q (ce (aG (d3 q) (.inl ⟨h,Zl,⟨Zp,Zp,Zf,Zf,Zt⟩⟩)))))
 exact Rcx 1 q (ce (aG (d3 q) (.inr (⟨h,Zl,⟨Zp,Zp,Zf,Zt⟩⟩))))
 rintro rv st1 (⟨h,hr,hst⟩|⟨h,hr,hst⟩)
 subst b8
 dsimp only at h
 exact WL.cast 107 q hr (WL.weak hst (WL.nil (WE.drop 3 (env':=[(5, .pt 0 0)]) Sb q Kv (Nat.zero_le _) (En2 h))))
 subst b'
 dsimp only at h
 exact WL.cast 107 q hr (WL.weak hst (WL.nil (En2 h)))
 exact Rcx 1 q (En2 h)
 rintro env1 st1 ⟨H,I,h,hsub,hst⟩
 subst b5
 dsimp only at h
 refine WC.sub hsub (WC.weak hst ?_)
 refine Rcl 3 q ?_
 obtain⟨cd,cb,h⟩:=ae h
 refine dX [2] q q q q (f34_c _ cb) Lw q dC (Ro q) ⟨q,Zt⟩ Kv q (λ_=>Kv) (λ_=>(Ro q)) (Zw q) q q (λci=>?_)
 refine Rll 5 q ?_
 obtain⟨cj,cc,h⟩:=ae h
 refine dX [2] q q q q (f41_c _ cc) Lw q dC (Ro q) ⟨q,Zt⟩ Kv q (λ_=>q) (λ_=>(Re q)) (Zw q) q q (λck=>?_)
 exact Rlx 4 q (FA h)

theorem f13_c{t0:ah}{at1:Int}{r:lI}(h:f13 t0 at1=some r):Pu prog 13 [.ag (R33 t0), .i .i64 at1] (.sl (List.map E3 r)):=by
 unfold f13 at h
 refine fI func13 λ_ _=>?_
 refine Rcl 2 q (Bd q q (Zs _) q (Rll 7 q ?_))
 obtain⟨e,a,h⟩:=ae h
 refine wF Z4 (f31_c _ a) Lw Z3 (Rl 2 q ?_)
 refine OG 3 8 11 3 3 ?_
 refine Rl 1 q ?_
 apply WL.or 6 (t:=12) (d:=18)
 exact q
 intro f
 exact Rl 3 q (Zy (ab E64 t0.insns e22 q q Zl) q q q (Rl 2 q (WL.nil ⟨q,[_,_,_,_,_,_],q,q,q⟩)))
 exact Rn 6 6
 refine Rlc 2 q (Ci h q (λh=>Rcx 7 q (FA h)) λh=>?_)
 refine Rcl 6 q ?_
 obtain⟨g,c,h⟩:=ae h
 exact wF Z4 (f39_c c) Lw Z3 (Rlx 4 q (FA h))

end Go.Proofs.YtpodhdopgcedlaaGreatDoor
