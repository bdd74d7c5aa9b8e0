/- The walks of functions. -/
import Derived.Test.YtkbahggepncliaaGreatDoorX
import Derived.Test.YtkbahggepncliaaGreatDoorWa
set_option linter.unusedVariables false
set_option linter.unusedSimpArgs false
set_option linter.unusedSectionVars false
set_option linter.unnecessarySimpa false
set_option maxHeartbeats 4000000
set_option maxRecDepth 100000
namespace Go.Proofs.YtkbahggepncliaaGreatDoor
open Tryz
open Go Go.Sk

theorem f132_c{a:Int}{a1:Int}{b2:Int}{r:Int×Bool}(h:f132 a a1 b2=some r):Pu prog 132 [.i .u8 a, .i .i64 a1, .i .i64 b2] (.tu [.i .i64 r.1, .b r.2]):=by
 unfold f132 at h
 refine fI func132 λ_ _=>?_
 refine Rcc 19 q (Ci h q (λh=>Rcx 12 q (FA h)) λh=>?_)
 refine Rcc 6 q (Ci h q (λh=>Rcx 12 q (FA h)) λh=>?_)
 refine Rcl 5 q ?_
 obtain⟨a',bb,h⟩:=aC h
 refine WL.inl (us:=[]) (λrv st'=>(a' ()=some r∧Le rv (.mp 0)∧SLe st' (tW 18))) q q q q q ?_ (Zw q) q q ?_
 refine cI func159 λ_ _ _ _=>?_
 refine Rcl 7 q (WL.s ((iB (α:=AV) (λx:Int=>Value.int .u8 x) λx:AV=>x).does) (Zw q) q q ?_)
 obtain⟨bk,bo,h⟩:=aC h
 refine WL.inl (us:=[.fn (.func 181) [] []]) (λrv st'=>(bk ()=some r∧Le rv (.fn (.func 214) [] [.pt 1 0])∧SLe st' (tS 0 1))) q q q q q ?_ (Zw q) q q ?_
 refine cI func180 λ_ _ _ _=>?_
 exact Rcl 2 q (Bx q q q (Rlx 10 q (ar (rs1 q (ap q)) ⟨h,Zl,⟨q,Zp,Zt⟩⟩)))
 rintro rv st1 ⟨h,hr,hst⟩
 subst bo
 dsimp only at h
 refine WL.cast 2 q hr (WL.weak hst (WL.s0 (bh (λx:Int=>Value.int .u8 x) (λx:AV=>x) _ (u:= .fn (.func 214) [] [.pt 1 0]) (.inl q) underlying237 underlying146 (KeyF.int .u8) q q q q) (Zw q) q ?_))
 obtain⟨bs,b0,h⟩:=aC h
 refine WL.inl (us:=[.fn (.func 182) [] []]) (λrv st'=>(bs ()=some r∧Le rv (.fn (.func 214) [] [.pt 2 0])∧SLe st' (tS 1 2))) q q q q q ?_ (Zw q) q q ?_
 refine cI func180 λ_ _ _ _=>?_
 exact Rcl 2 q (Bx q q q (Rlx 10 q (ar (rs1 q (ap q)) ⟨h,Zl,⟨q,Zp,Zp,Zt⟩⟩)))
 rintro rv st1 ⟨h,hr,hst⟩
 subst b0
 dsimp only at h
 refine WL.cast 3 q hr (WL.weak hst (WL.s0 (bh (λx:Int=>Value.int .u8 x) (λx:AV=>x) _ (u:= .fn (.func 214) [] [.pt 2 0]) (.inl q) underlying237 underlying146 (KeyF.int .u8) q q q q) (Zw q) q ?_))
 obtain⟨b1,b3,h⟩:=aC h
 refine WL.inl (us:=[.fn (.func 183) [] []]) (λrv st'=>(b1 ()=some r∧Le rv (.fn (.func 214) [] [.pt 3 0])∧SLe st' (tS 2 3))) q q q q q ?_ (Zw q) q q ?_
 refine cI func180 λ_ _ _ _=>?_
 exact Rcl 2 q (Bx q q q (Rlx 10 q (ar (rs1 q (ap q)) ⟨h,Zl,⟨q,Zp,Zp,Zp,Zt⟩⟩)))
 rintro rv st1 ⟨h,hr,hst⟩
 subst b3
 dsimp only at h
 refine WL.cast 4 q hr (WL.weak hst (WL.s0 (bh (λx:Int=>Value.int .u8 x) (λx:AV=>x) _ (u:= .fn (.func 214) [] [.pt 3 0]) (.inl q) underlying237 underlying146 (KeyF.int .u8) q q q q) (Zw q) q ?_))
 obtain⟨b4,b5,h⟩:=aC h
 refine WL.inl (us:=[.fn (.func 185) [] []]) (λrv st'=>(b4 ()=some r∧Le rv (.fn (.func 215) [] [.pt 4 0])∧SLe st' (tS 3 4))) q q q q q ?_ (Zw q) q q ?_
 refine cI func184 λ_ _ _ _=>?_
 exact Rcl 2 q (Bx q q q (Rlx 10 q (ar (rs1 q (ap q)) ⟨h,Zl,⟨q,Zp,Zp,Zp,Zp,Zt⟩⟩)))
 rintro rv st1 ⟨h,hr,hst⟩
 subst b5
 dsimp only at h
 refine WL.cast 5 q hr (WL.weak hst (WL.s0 (bh (λx:Int=>Value.int .u8 x) (λx:AV=>x) _ (u:= .fn (.func 215) [] [.pt 4 0]) (.inl q) underlying237 underlying146 (KeyF.int .u8) q q q q) (Zw q) q ?_))
 obtain⟨b6,b7,h⟩:=aC h
 refine WL.inl (us:=[.fn (.func 186) [] []]) (λrv st'=>(b6 ()=some r∧Le rv (.fn (.func 215) [] [.pt 5 0])∧SLe st' (tS 4 5))) q q q q q ?_ (Zw q) q q ?_
 refine cI func184 λ_ _ _ gl=>?_
 exact Rcl 2 q (Bx q q q (Rlx 10 q (ar (rs1 q (ap q)) ⟨h,Zl,⟨q,Zp,Zp,Zp,Zp,Zp,Zt⟩⟩)))
 rintro rv st1 ⟨h,hr,hst⟩
 subst b7
 dsimp only at h
 refine WL.cast 6 q hr (WL.weak hst (WL.s0 (bh (λx:Int=>Value.int .u8 x) (λx:AV=>x) _ (u:= .fn (.func 215) [] [.pt 5 0]) (.inl q) underlying237 underlying146 (KeyF.int .u8) q q q q) (Zw q) q ?_))
 obtain⟨b8,b9,h⟩:=aC h
 refine WL.inl (us:=[.fn (.func 187) [] []]) (λrv st'=>(b8 ()=some r∧Le rv (.fn (.func 215) [] [.pt 6 0])∧SLe st' (tS 5 6))) q q q q q ?_ (Zw q) q q ?_
 refine cI func184 λ_ _ _ _=>?_
 exact Rcl 2 q (Bx q q q (Rlx 10 q (ar (rs1 q (ap q)) ⟨h,Zl,⟨q,Zp,Zp,Zp,Zp,Zp,Zp,Zt⟩⟩)))
 rintro rv st1 ⟨h,hr,hst⟩
 subst b9
 dsimp only at h
 refine WL.cast 7 q hr (WL.weak hst (WL.s0 (bh (λx:Int=>Value.int .u8 x) (λx:AV=>x) _ (u:= .fn (.func 215) [] [.pt 6 0]) (.inl q) underlying237 underlying146 (KeyF.int .u8) q q q q) (Zw q) q ?_))
 obtain⟨b',ca,h⟩:=aC h
 refine WL.inl (us:=[.fn (.func 189) [] []]) (λrv st'=>(b' ()=some r∧Le rv (.fn (.func 216) [] [.pt 7 0])∧SLe st' (tS 6 7))) q q q q q ?_ (Zw q) q q ?_
 refine cI func188 λ_ _ _ _=>?_
 exact Rcl 2 q (Bx q q q (Rlx 10 q (ar (rs1 q (ap q)) ⟨h,Zl,⟨q,Zp,Zp,Zp,Zp,Zp,Zp,Zp,Zt⟩⟩)))
 rintro rv st1 ⟨h,hr,hst⟩
 subst ca
 dsimp only at h
 refine WL.cast 8 q hr (WL.weak hst (WL.s0 (bh (λx:Int=>Value.int .u8 x) (λx:AV=>x) _ (u:= .fn (.func 216) [] [.pt 7 0]) (.inl q) underlying237 underlying146 (KeyF.int .u8) q q q q) (Zw q) q ?_))
 obtain⟨cb,cc,h⟩:=aC h
 refine WL.inl (us:=[.fn (.func 190) [] []]) (λrv st'=>(cb ()=some r∧Le rv (.fn (.func 216) [] [.pt 8 0])∧SLe st' (tS 7 8))) q q q q q ?_ (Zw q) q q ?_
 refine cI func188 λ_ _ _ _=>?_
 exact Rcl 2 q (Bx q q q (Rlx 10 q (ar (rs1 q (ap q)) ⟨h,Zl,⟨q,Zp,Zp,Zp,Zp,Zp,Zp,Zp,Zp,Zt⟩⟩)))
 rintro rv st1 ⟨h,hr,hst⟩
 subst cc
 dsimp only at h
 refine WL.cast 9 q hr (WL.weak hst (WL.s0 (bh (λx:Int=>Value.int .u8 x) (λx:AV=>x) _ (u:= .fn (.func 216) [] [.pt 8 0]) (.inl q) underlying237 underlying146 (KeyF.int .u8) q q q q) (Zw q) q ?_))
 obtain⟨cd,ci,h⟩:=aC h
 refine WL.inl (us:=[.fn (.func 191) [] []]) (λrv st'=>(cd ()=some r∧Le rv (.fn (.func 216) [] [.pt 9 0])∧SLe st' (tS 8 9))) q q q q q ?_ (Zw q) q q ?_
 refine cI func188 λ_ _ _ _=>?_
 exact Rcl 2 q (Bx q q q (Rlx 10 q (ar (rs1 q (ap q)) ⟨h,Zl,⟨q,Zp,Zp,Zp,Zp,Zp,Zp,Zp,Zp,Zp,Zt⟩⟩)))
 rintro rv st1 ⟨h,hr,hst⟩
 subst ci
 dsimp only at h
 refine WL.cast 10 q hr (WL.weak hst (WL.s0 (bh (λx:Int=>Value.int .u8 x) (λx:AV=>x) _ (u:= .fn (.func 216) [] [.pt 9 0]) (.inl q) underlying237 underlying146 (KeyF.int .u8) q q q q) (Zw q) q ?_))
 obtain⟨cj,cl,h⟩:=aC h
 refine WL.inl (us:=[.fn (.func 192) [] []]) (λrv st'=>(cj ()=some r∧Le rv (.fn (.func 216) [] [.pt 10 0])∧SLe st' (tS 9 10))) q q q q q ?_ (Zw q) q q ?_
 refine cI func188 λ_ _ _ _=>?_
 exact Rcl 2 q (Bx q q q (Rlx 10 q (ar (rs1 q (ap q)) ⟨h,Zl,⟨q,Zp,Zp,Zp,Zp,Zp,Zp,Zp,Zp,Zp,Zp,Zt⟩⟩)))
 rintro rv st1 ⟨h,hr,hst⟩
 subst cl
 dsimp only at h
 refine WL.cast 11 q hr (WL.weak hst (WL.s0 (bh (λx:Int=>Value.int .u8 x) (λx:AV=>x) _ (u:= .fn (.func 216) [] [.pt 10 0]) (.inl q) underlying237 underlying146 (KeyF.int .u8) q q q q) (Zw q) q ?_))
 obtain⟨cn,cp,h⟩:=aC h
 refine WL.inl (us:=[.fn (.func 193) [] []]) (λrv st'=>(cn ()=some r∧Le rv (.fn (.func 216) [] [.pt 11 0])∧SLe st' (tS 10 11))) q q q q q ?_ (Zw q) q q ?_
 refine cI func188 λ_ _ _ gm=>?_
 exact Rcl 2 q (Bx q q q (Rlx 10 q (ar (rs1 q (ap q)) ⟨h,Zl,⟨q,Zp,Zp,Zp,Zp,Zp,Zp,Zp,Zp,Zp,Zp,Zp,Zt⟩⟩)))
 rintro rv st1 ⟨h,hr,hst⟩
 subst cp
 dsimp only at h
 refine WL.cast 12 q hr (WL.weak hst (WL.s0 (bh (λx:Int=>Value.int .u8 x) (λx:AV=>x) _ (u:= .fn (.func 216) [] [.pt 11 0]) (.inl q) underlying237 underlying146 (KeyF.int .u8) q q q q) (Zw q) q ?_))
 obtain⟨cx,c0,h⟩:=aC h
 refine WL.inl (us:=[.fn (.func 194) [] []]) (λrv st'=>(cx ()=some r∧Le rv (.fn (.func 216) [] [.pt 12 0])∧SLe st' (tS 11 12))) q q q q q ?_ (Zw q) q q ?_
 refine cI func188 λ_ _ _ _=>?_
 exact Rcl 2 q (Bx q q q (Rlx 10 q (ar (rs1 q (ap q)) ⟨h,Zl,⟨q,Zp,Zp,Zp,Zp,Zp,Zp,Zp,Zp,Zp,Zp,Zp,Zp,Zt⟩⟩)))
 rintro rv st1 ⟨h,hr,hst⟩
 subst c0
 dsimp only at h
 refine WL.cast 13 q hr (WL.weak hst (WL.s0 (bh (λx:Int=>Value.int .u8 x) (λx:AV=>x) _ (u:= .fn (.func 216) [] [.pt 12 0]) (.inl q) underlying237 underlying146 (KeyF.int .u8) q q q q) (Zw q) q ?_))
 obtain⟨c1,c2,h⟩:=aC h
 refine WL.inl (us:=[.fn (.func 195) [] []]) (λrv st'=>(c1 ()=some r∧Le rv (.fn (.func 214) [] [.pt 13 0])∧SLe st' (tS 12 13))) q q q q q ?_ (Zw q) q q ?_
 refine cI func180 λ_ _ _ _=>?_
 exact Rcl 2 q (Bx q q q (Rlx 10 q (ar (rs1 q (ap q)) ⟨h,Zl,⟨q,Zp,Zp,Zp,Zp,Zp,Zp,Zp,Zp,Zp,Zp,Zp,Zp,Zp,Zt⟩⟩)))
 rintro rv st1 ⟨h,hr,hst⟩
 subst c2
 dsimp only at h
 refine WL.cast 14 q hr (WL.weak hst (WL.s0 (bh (λx:Int=>Value.int .u8 x) (λx:AV=>x) _ (u:= .fn (.func 214) [] [.pt 13 0]) (.inl q) underlying237 underlying146 (KeyF.int .u8) q q q q) (Zw q) q ?_))
 obtain⟨c3,c4,h⟩:=aC h
 refine WL.inl (us:=[.fn (.func 196) [] []]) (λrv st'=>(c3 ()=some r∧Le rv (.fn (.func 214) [] [.pt 14 0])∧SLe st' (tS 13 14))) q q q q q ?_ (Zw q) q q ?_
 refine cI func180 λ_ _ _ _=>?_
 exact Rcl 2 q (Bx q q q (Rlx 10 q (ar (rs1 q (ap q)) ⟨h,Zl,⟨q,Zp,Zp,Zp,Zp,Zp,Zp,Zp,Zp,Zp,Zp,Zp,Zp,Zp,Zp,Zt⟩⟩)))
 rintro rv st1 ⟨h,hr,hst⟩
 subst c4
 dsimp only at h
 refine WL.cast 15 q hr (WL.weak hst (WL.s0 (bh (λx:Int=>Value.int .u8 x) (λx:AV=>x) _ (u:= .fn (.func 214) [] [.pt 14 0]) (.inl q) underlying237 underlying146 (KeyF.int .u8) q q q q) (Zw q) q ?_))
 obtain⟨c5,c6,h⟩:=aC h
 refine WL.inl (us:=[.fn (.func 197) [] []]) (λrv st'=>(c5 ()=some r∧Le rv (.fn (.func 214) [] [.pt 15 0])∧SLe st' (tS 14 15))) q q q q q ?_ (Zw q) q q ?_
 refine cI func180 λ_ _ _ gs=>?_
 exact Rcl 2 q (Bx q q q (Rlx 10 q (ar (rs1 q (ap q)) ⟨h,Zl,⟨q,Zp,Zp,Zp,Zp,Zp,Zp,Zp,Zp,Zp,Zp,Zp,Zp,Zp,Zp,Zp,Zt⟩⟩)))
 rintro rv st1 ⟨h,hr,hst⟩
 subst c6
 dsimp only at h
 refine WL.cast 16 q hr (WL.weak hst (WL.s0 (bh (λx:Int=>Value.int .u8 x) (λx:AV=>x) _ (u:= .fn (.func 214) [] [.pt 15 0]) (.inl q) underlying237 underlying146 (KeyF.int .u8) q q q q) (Zw q) q ?_))
 obtain⟨c7,c8,h⟩:=aC h
 refine WL.inl (us:=[.fn (.func 198) [] []]) (λrv st'=>(c7 ()=some r∧Le rv (.fn (.func 214) [] [.pt 16 0])∧SLe st' (tS 15 16))) q q q q q ?_ (Zw q) q q ?_
 refine cI func180 λ_ _ _ _=>?_
 exact Rcl 2 q (Bx q q q (Rlx 10 q (ar (rs1 q (ap q)) ⟨h,Zl,⟨q,Zp,Zp,Zp,Zp,Zp,Zp,Zp,Zp,Zp,Zp,Zp,Zp,Zp,Zp,Zp,Zp,Zt⟩⟩)))
 rintro rv st1 ⟨h,hr,hst⟩
 subst c8
 dsimp only at h
 refine WL.cast 17 q hr (WL.weak hst (WL.s0 (bh (λx:Int=>Value.int .u8 x) (λx:AV=>x) _ (u:= .fn (.func 214) [] [.pt 16 0]) (.inl q) underlying237 underlying146 (KeyF.int .u8) q q q q) (Zw q) q ?_))
 obtain⟨c9,c',h⟩:=aC h
 refine WL.inl (us:=[.fn (.func 199) [] []]) (λrv st'=>(c9 ()=some r∧Le rv (.fn (.func 214) [] [.pt 17 0])∧SLe st' (tS 16 17))) q q q q q ?_ (Zw q) q q ?_
 refine cI func180 λ_ _ _ _=>?_
 exact Rcl 2 q (Bx q q q (Rlx 10 q (ar (rs1 q (ap q)) ⟨h,Zl,⟨q,Zp,Zp,Zp,Zp,Zp,Zp,Zp,Zp,Zp,Zp,Zp,Zp,Zp,Zp,Zp,Zp,Zp,Zt⟩⟩)))
 rintro rv st1 ⟨h,hr,hst⟩
 subst c'
 dsimp only at h
 refine WL.cast 18 q hr (WL.weak hst (WL.s0 (bh (λx:Int=>Value.int .u8 x) (λx:AV=>x) _ (u:= .fn (.func 214) [] [.pt 17 0]) (.inl q) underlying237 underlying146 (KeyF.int .u8) q q q q) (Zw q) q ?_))
 obtain⟨dd,df,h⟩:=aC h
 refine WL.inl (us:=[.fn (.func 200) [] []]) (λrv st'=>(dd ()=some r∧Le rv (.fn (.func 214) [] [.pt 18 0])∧SLe st' (tS 17 18))) q q q q q ?_ (Zw q) q q ?_
 refine cI func180 λ_ _ _ _=>?_
 exact Rcl 2 q (Bx q q q (Rlx 10 q (ar (rs1 q (ap q)) ⟨h,Zl,⟨q,Zp,Zp,Zp,Zp,Zp,Zp,Zp,Zp,Zp,Zp,Zp,Zp,Zp,Zp,Zp,Zp,Zp,Zp,Zt⟩⟩)))
 rintro rv st1 ⟨h,hr,hst⟩
 subst df
 dsimp only at h
 exact WL.cast 19 q hr (WL.weak hst (WL.s0 (bh (λx:Int=>Value.int .u8 x) (λx:AV=>x) _ (u:= .fn (.func 214) [] [.pt 18 0]) (.inl q) underlying237 underlying146 (KeyF.int .u8) q q q q) (Zw q) q (Rl 2 q (Zn (Rcx 1 q (ar (rs1 q (ap q)) ⟨h,Zl,⟨q,Zp,Zp,Zp,Zp,Zp,Zp,Zp,Zp,Zp,Zp,Zp,Zp,Zp,Zp,Zp,Zp,Zp,Zp,Zt⟩⟩))))))
 rintro rv st1 ⟨h,hr,hst⟩
 subst bb
 dsimp only at h
 refine WL.cast 22 q hr (WL.weak hst ?_)
 rcases bP h with⟨p,h⟩|⟨t,h⟩
 refine Rl 1 q (Zq (bw (λx:Int=>Value.int .u8 x) (λx:AV=>x) _ (k:=a) (z:= .d (.v .nilFunc)) underlying237 underlying146 (KeyF.int .u8) q q q kR q (by rw[p]<;>rfl) (by rw[p]<;>rfl)) q (Rl 5 q (Zn (Rcc 7 q (bl q (Rcc 3 q (WC.weak (st':=(dT 1 209 181 17)) Tv (WC.sub (env':=[(0, .d (D.i .u8 a)),(1, .n a1),(2, .n b2),(8, .fn (.func 214) [] [.pt 1 0])]) Sb (Rcl 4 q ?_)))))))))
 obtain⟨ds,dA,h⟩:=aC h
 refine WL.inl (us:=[.n a1, .n b2, .pt 1 0]) (λrv st'=>(ds ()=some r∧Le rv (.tu [.n (f181 a1 b2), .d (D.b true)])∧SLe st' (dT 1 209 181 17))) q q q q q ?_ (Zw q) q q ?_
 refine cI func214 λ_ _ _ _=>?_
 exact Rcl 11 q (wF Z4 (f181_c) Lw Z3 (Rlx 5 q (ar (rs2 q (ap q) (ap q)) ⟨h,(Le.tu Lw),Tv⟩)))
 rintro rv st1 ⟨h,hr,hst⟩
 subst dA
 dsimp only at h
 exact WL.cast 32 q hr (WL.weak hst (Rl 4 q (Zn (Rcx 1 q (FA h)))))
 rcases bP h with⟨w,h⟩|⟨y,h⟩
 refine Rl 1 q (Zq (bw (λx:Int=>Value.int .u8 x) (λx:AV=>x) _ (k:=a) (z:= .d (.v .nilFunc)) underlying237 underlying146 (KeyF.int .u8) q q q kR q (by rw[w]<;>rfl) (by rw[w]<;>rfl)) q (Rl 5 q (Zn (Rcc 7 q (bl q (Rcc 3 q (WC.weak (st':=(dT 2 209 182 16)) Tv (WC.sub (env':=[(0, .d (D.i .u8 a)),(1, .n a1),(2, .n b2),(8, .fn (.func 214) [] [.pt 2 0])]) Sb (Rcl 4 q ?_)))))))))
 obtain⟨dS,d0,h⟩:=aC h
 refine WL.inl (us:=[.n a1, .n b2, .pt 2 0]) (λrv st'=>(dS ()=some r∧Le rv (.tu [.n (f182 a1 b2), .d (D.b true)])∧SLe st' (dT 2 209 182 16))) q q q q q ?_ (Zw q) q q ?_
 refine cI func214 λ_ _ _ _=>?_
 exact Rcl 11 q (wF Z4 (f182_c) Lw Z3 (Rlx 5 q (ar (rs2 q (ap q) (ap q)) ⟨h,(Le.tu Lw),Tv⟩)))
 rintro rv st1 ⟨h,hr,hst⟩
 subst d0
 dsimp only at h
 exact WL.cast 32 q hr (WL.weak hst (Rl 4 q (Zn (Rcx 1 q (FA h)))))
 rcases bP h with⟨A,h⟩|⟨B,h⟩
 refine Rl 1 q (Zq (bw (λx:Int=>Value.int .u8 x) (λx:AV=>x) _ (k:=a) (z:= .d (.v .nilFunc)) underlying237 underlying146 (KeyF.int .u8) q q q kR q (by rw[A]<;>rfl) (by rw[A]<;>rfl)) q (Rl 5 q (Zn (Rcc 7 q (bl q (Rcc 3 q (WC.weak (st':=(dT 3 209 183 15)) Tv (WC.sub (env':=[(0, .d (D.i .u8 a)),(1, .n a1),(2, .n b2),(8, .fn (.func 214) [] [.pt 3 0])]) Sb (Rcl 4 q ?_)))))))))
 obtain⟨d1,d2,h⟩:=aC h
 refine WL.inl (us:=[.n a1, .n b2, .pt 3 0]) (λrv st'=>(d1 ()=some r∧Le rv (.tu [.n (f183 a1 b2), .d (D.b true)])∧SLe st' (dT 3 209 183 15))) q q q q q ?_ (Zw q) q q ?_
 refine cI func214 λ_ _ _ _=>?_
 exact Rcl 11 q (wF Z4 (f183_c) Lw Z3 (Rlx 5 q (ar (rs2 q (ap q) (ap q)) ⟨h,(Le.tu Lw),Tv⟩)))
 rintro rv st1 ⟨h,hr,hst⟩
 subst d2
 dsimp only at h
 exact WL.cast 32 q hr (WL.weak hst (Rl 4 q (Zn (Rcx 1 q (FA h)))))
 rcases bP h with⟨C,h⟩|⟨E,h⟩
 refine Rl 1 q (Zq (bw (λx:Int=>Value.int .u8 x) (λx:AV=>x) _ (k:=a) (z:= .d (.v .nilFunc)) underlying237 underlying146 (KeyF.int .u8) q q q kR q (by rw[C]<;>rfl) (by rw[C]<;>rfl)) q (Rl 5 q (Zn (Rcc 7 q (bl q (Rcc 3 q (WC.weak (st':=(dT 4 209 185 14)) Tv (WC.sub (env':=[(0, .d (D.i .u8 a)),(1, .n a1),(2, .n b2),(8, .fn (.func 215) [] [.pt 4 0])]) Sb (Rcl 4 q ?_)))))))))
 obtain⟨d',ec,h⟩:=aC h
 refine WL.inl (us:=[.n a1, .n b2, .pt 4 0]) (λrv st'=>(∃(c:Bool),∃(e:Int),d' c e=some r∧Le rv (.tu [.n e, .d (D.b c)])∧SLe st' (dT 4 209 185 14))) q q q q q ?_ (Zw q) q q ?_
 refine cI func215 λ_ _ _ _=>?_
 refine Rcc 13 q (Ci h q (λh=>Rcx 8 q (ar (rs2 q (ap q) (ap q)) ⟨false,0,h,(Le.tu Lw),Tv⟩)) λh=>?_)
 refine Rcl 7 q ?_
 obtain⟨ee,ei,h⟩:=ab h
 exact wF Z4 (f185_c ei) Lw Z3 (Rlx 5 q (ar (rs2 q (ap q) (ap q)) ⟨true,ee,h,(Le.tu Lw),Tv⟩))
 rintro rv st1 ⟨c,e,h,hr,hst⟩
 subst ec
 dsimp only at h
 exact WL.cast 32 q hr (WL.weak hst (Rl 4 q (Zn (Rcx 1 q (FA h)))))
 rcases bP h with⟨F,h⟩|⟨G,h⟩
 refine Rl 1 q (Zq (bw (λx:Int=>Value.int .u8 x) (λx:AV=>x) _ (k:=a) (z:= .d (.v .nilFunc)) underlying237 underlying146 (KeyF.int .u8) q q q kR q (by rw[F]<;>rfl) (by rw[F]<;>rfl)) q (Rl 5 q (Zn (Rcc 7 q (bl q (Rcc 3 q (WC.weak (st':=(dT 5 209 186 13)) Tv (WC.sub (env':=[(0, .d (D.i .u8 a)),(1, .n a1),(2, .n b2),(8, .fn (.func 215) [] [.pt 5 0])]) Sb (Rcl 4 q ?_)))))))))
 obtain⟨el,em,h⟩:=aC h
 refine WL.inl (us:=[.n a1, .n b2, .pt 5 0]) (λrv st'=>(∃(f:Bool),∃(g:Int),el f g=some r∧Le rv (.tu [.n g, .d (D.b f)])∧SLe st' (dT 5 209 186 13))) q q q q q ?_ (Zw q) q q ?_
 refine cI func215 λ_ _ _ _=>?_
 refine Rcc 13 q (Ci h q (λh=>Rcx 8 q (ar (rs2 q (ap q) (ap q)) ⟨false,0,h,(Le.tu Lw),Tv⟩)) λh=>?_)
 refine Rcl 7 q ?_
 obtain⟨en,er,h⟩:=ab h
 exact wF Z4 (f186_c er) Lw Z3 (Rlx 5 q (ar (rs2 q (ap q) (ap q)) ⟨true,en,h,(Le.tu Lw),Tv⟩))
 rintro rv st1 ⟨f,g,h,hr,hst⟩
 subst em
 dsimp only at h
 exact WL.cast 32 q hr (WL.weak hst (Rl 4 q (Zn (Rcx 1 q (FA h)))))
 rcases bP h with⟨H,h⟩|⟨I,h⟩
 refine Rl 1 q (Zq (bw (λx:Int=>Value.int .u8 x) (λx:AV=>x) _ (k:=a) (z:= .d (.v .nilFunc)) underlying237 underlying146 (KeyF.int .u8) q q q kR q (by rw[H]<;>rfl) (by rw[H]<;>rfl)) q (Rl 5 q (Zn (Rcc 7 q (bl q (Rcc 3 q (WC.weak (st':=(dT 6 209 187 12)) Tv (WC.sub (env':=[(0, .d (D.i .u8 a)),(1, .n a1),(2, .n b2),(8, .fn (.func 215) [] [.pt 6 0])]) Sb (Rcl 4 q ?_)))))))))
 obtain⟨es,et,h⟩:=aC h
 refine WL.inl (us:=[.n a1, .n b2, .pt 6 0]) (λrv st'=>(∃(j:Bool),∃(m:Int),es j m=some r∧Le rv (.tu [.n m, .d (D.b j)])∧SLe st' (dT 6 209 187 12))) q q q q q ?_ (Zw q) q q ?_
 refine cI func215 λ_ _ _ _=>?_
 refine Rcc 13 q (Ci h q (λh=>Rcx 8 q (ar (rs2 q (ap q) (ap q)) ⟨false,0,h,(Le.tu Lw),Tv⟩)) λh=>?_)
 refine Rcl 7 q ?_
 obtain⟨ew,ex,h⟩:=ab h
 exact wF Z4 (f187_c ex) Lw Z3 (Rlx 5 q (ar (rs2 q (ap q) (ap q)) ⟨true,ew,h,(Le.tu Lw),Tv⟩))
 rintro rv st1 ⟨j,m,h,hr,hst⟩
 subst et
 dsimp only at h
 exact WL.cast 32 q hr (WL.weak hst (Rl 4 q (Zn (Rcx 1 q (FA h)))))
 rcases bP h with⟨J,h⟩|⟨K,h⟩
 refine Rl 1 q (Zq (bw (λx:Int=>Value.int .u8 x) (λx:AV=>x) _ (k:=a) (z:= .d (.v .nilFunc)) underlying237 underlying146 (KeyF.int .u8) q q q kR q (by rw[J]<;>rfl) (by rw[J]<;>rfl)) q (Rl 5 q (Zn (Rcc 7 q (bl q (Rcc 3 q (WC.weak (st':=(dT 7 195 189 11)) Tv (WC.sub (env':=[(0, .d (D.i .u8 a)),(1, .n a1),(2, .n b2),(8, .fn (.func 216) [] [.pt 7 0])]) Sb (Rcl 4 q ?_)))))))))
 obtain⟨ey,e0,h⟩:=aC h
 refine WL.inl (us:=[.n a1, .n b2, .pt 7 0]) (λrv st'=>(ey ()=some r∧Le rv (.tu [.n (f217 (f189 a1 b2)), .d (D.b true)])∧SLe st' (dT 7 195 189 11))) q q q q q ?_ (Zw q) q q ?_
 refine cI func216 λ_ _ _ _=>?_
 exact Rcl 11 q (wF Z4 (f189_c) Lw Z3 (wF Z4 (f217_c) Lw Z3 (Rlx 5 q (ar (rs2 q (ap q) (ap q)) ⟨h,(Le.tu Lw),Tv⟩))))
 rintro rv st1 ⟨h,hr,hst⟩
 subst e0
 dsimp only at h
 exact WL.cast 32 q hr (WL.weak hst (Rl 4 q (Zn (Rcx 1 q (FA h)))))
 rcases bP h with⟨L,h⟩|⟨M,h⟩
 refine Rl 1 q (Zq (bw (λx:Int=>Value.int .u8 x) (λx:AV=>x) _ (k:=a) (z:= .d (.v .nilFunc)) underlying237 underlying146 (KeyF.int .u8) q q q kR q (by rw[L]<;>rfl) (by rw[L]<;>rfl)) q (Rl 5 q (Zn (Rcc 7 q (bl q (Rcc 3 q (WC.weak (st':=(dT 8 195 190 10)) Tv (WC.sub (env':=[(0, .d (D.i .u8 a)),(1, .n a1),(2, .n b2),(8, .fn (.func 216) [] [.pt 8 0])]) Sb (Rcl 4 q ?_)))))))))
 obtain⟨e1,e2,h⟩:=aC h
 refine WL.inl (us:=[.n a1, .n b2, .pt 8 0]) (λrv st'=>(e1 ()=some r∧Le rv (.tu [.n (f217 (f190 a1 b2)), .d (D.b true)])∧SLe st' (dT 8 195 190 10))) q q q q q ?_ (Zw q) q q ?_
 refine cI func216 λ_ _ _ _=>?_
 exact Rcl 11 q (wF Z4 (f190_c) Lw Z3 (wF Z4 (f217_c) Lw Z3 (Rlx 5 q (ar (rs2 q (ap q) (ap q)) ⟨h,(Le.tu Lw),Tv⟩))))
 rintro rv st1 ⟨h,hr,hst⟩
 subst e2
 dsimp only at h
 exact WL.cast 32 q hr (WL.weak hst (Rl 4 q (Zn (Rcx 1 q (FA h)))))
 rcases bP h with⟨N,h⟩|⟨O,h⟩
 refine Rl 1 q (Zq (bw (λx:Int=>Value.int .u8 x) (λx:AV=>x) _ (k:=a) (z:= .d (.v .nilFunc)) underlying237 underlying146 (KeyF.int .u8) q q q kR q (by rw[N]<;>rfl) (by rw[N]<;>rfl)) q (Rl 5 q (Zn (Rcc 7 q (bl q (Rcc 3 q (WC.weak (st':=(dT 9 195 191 9)) Tv (WC.sub (env':=[(0, .d (D.i .u8 a)),(1, .n a1),(2, .n b2),(8, .fn (.func 216) [] [.pt 9 0])]) Sb (Rcl 4 q ?_)))))))))
 obtain⟨e3,e4,h⟩:=aC h
 refine WL.inl (us:=[.n a1, .n b2, .pt 9 0]) (λrv st'=>(e3 ()=some r∧Le rv (.tu [.n (f217 (f191 a1 b2)), .d (D.b true)])∧SLe st' (dT 9 195 191 9))) q q q q q ?_ (Zw q) q q ?_
 refine cI func216 λ_ _ _ _=>?_
 exact Rcl 11 q (wF Z4 (f191_c) Lw Z3 (wF Z4 (f217_c) Lw Z3 (Rlx 5 q (ar (rs2 q (ap q) (ap q)) ⟨h,(Le.tu Lw),Tv⟩))))
 rintro rv st1 ⟨h,hr,hst⟩
 subst e4
 dsimp only at h
 exact WL.cast 32 q hr (WL.weak hst (Rl 4 q (Zn (Rcx 1 q (FA h)))))
 rcases bP h with⟨P,h⟩|⟨Q,h⟩
 refine Rl 1 q (Zq (bw (λx:Int=>Value.int .u8 x) (λx:AV=>x) _ (k:=a) (z:= .d (.v .nilFunc)) underlying237 underlying146 (KeyF.int .u8) q q q kR q (by rw[P]<;>rfl) (by rw[P]<;>rfl)) q (Rl 5 q (Zn (Rcc 7 q (bl q (Rcc 3 q (WC.weak (st':=(dT 10 195 192 8)) Tv (WC.sub (env':=[(0, .d (D.i .u8 a)),(1, .n a1),(2, .n b2),(8, .fn (.func 216) [] [.pt 10 0])]) Sb (Rcl 4 q ?_)))))))))
 obtain⟨e5,e6,h⟩:=aC h
 refine WL.inl (us:=[.n a1, .n b2, .pt 10 0]) (λrv st'=>(e5 ()=some r∧Le rv (.tu [.n (f217 (f192 a1 b2)), .d (D.b true)])∧SLe st' (dT 10 195 192 8))) q q q q q ?_ (Zw q) q q ?_
 refine cI func216 λ_ _ _ _=>?_
 exact Rcl 11 q (wF Z4 (f192_c) Lw Z3 (wF Z4 (f217_c) Lw Z3 (Rlx 5 q (ar (rs2 q (ap q) (ap q)) ⟨h,(Le.tu Lw),Tv⟩))))
 rintro rv st1 ⟨h,hr,hst⟩
 subst e6
 dsimp only at h
 exact WL.cast 32 q hr (WL.weak hst (Rl 4 q (Zn (Rcx 1 q (FA h)))))
 rcases bP h with⟨R,h⟩|⟨S,h⟩
 refine Rl 1 q (Zq (bw (λx:Int=>Value.int .u8 x) (λx:AV=>x) _ (k:=a) (z:= .d (.v .nilFunc)) underlying237 underlying146 (KeyF.int .u8) q q q kR q (by rw[R]<;>rfl) (by rw[R]<;>rfl)) q (Rl 5 q (Zn (Rcc 7 q (bl q (Rcc 3 q (WC.weak (st':=(dT 11 195 193 7)) Tv (WC.sub (env':=[(0, .d (D.i .u8 a)),(1, .n a1),(2, .n b2),(8, .fn (.func 216) [] [.pt 11 0])]) Sb (Rcl 4 q ?_)))))))))
 obtain⟨e7,e8,h⟩:=aC h
 refine WL.inl (us:=[.n a1, .n b2, .pt 11 0]) (λrv st'=>(e7 ()=some r∧Le rv (.tu [.n (f217 (f193 a1 b2)), .d (D.b true)])∧SLe st' (dT 11 195 193 7))) q q q q q ?_ (Zw q) q q ?_
 refine cI func216 λ_ _ _ _=>?_
 exact Rcl 11 q (wF Z4 (f193_c) Lw Z3 (wF Z4 (f217_c) Lw Z3 (Rlx 5 q (ar (rs2 q (ap q) (ap q)) ⟨h,(Le.tu Lw),Tv⟩))))
 rintro rv st1 ⟨h,hr,hst⟩
 subst e8
 dsimp only at h
 exact WL.cast 32 q hr (WL.weak hst (Rl 4 q (Zn (Rcx 1 q (FA h)))))
 rcases bP h with⟨T,h⟩|⟨U,h⟩
 refine Rl 1 q (Zq (bw (λx:Int=>Value.int .u8 x) (λx:AV=>x) _ (k:=a) (z:= .d (.v .nilFunc)) underlying237 underlying146 (KeyF.int .u8) q q q kR q (by rw[T]<;>rfl) (by rw[T]<;>rfl)) q (Rl 5 q (Zn (Rcc 7 q (bl q (Rcc 3 q (WC.weak (st':=(dT 12 195 194 6)) Tv (WC.sub (env':=[(0, .d (D.i .u8 a)),(1, .n a1),(2, .n b2),(8, .fn (.func 216) [] [.pt 12 0])]) Sb (Rcl 4 q ?_)))))))))
 obtain⟨e',fo,h⟩:=aC h
 refine WL.inl (us:=[.n a1, .n b2, .pt 12 0]) (λrv st'=>(e' ()=some r∧Le rv (.tu [.n (f217 (f194 a1 b2)), .d (D.b true)])∧SLe st' (dT 12 195 194 6))) q q q q q ?_ (Zw q) q q ?_
 refine cI func216 λ_ _ _ _=>?_
 exact Rcl 11 q (wF Z4 (f194_c) Lw Z3 (wF Z4 (f217_c) Lw Z3 (Rlx 5 q (ar (rs2 q (ap q) (ap q)) ⟨h,(Le.tu Lw),Tv⟩))))
 rintro rv st1 ⟨h,hr,hst⟩
 subst fo
 dsimp only at h
 exact WL.cast 32 q hr (WL.weak hst (Rl 4 q (Zn (Rcx 1 q (FA h)))))
 rcases bP h with⟨V,h⟩|⟨W,h⟩
 refine Rl 1 q (Zq (bw (λx:Int=>Value.int .u8 x) (λx:AV=>x) _ (k:=a) (z:= .d (.v .nilFunc)) underlying237 underlying146 (KeyF.int .u8) q q q kR q (by rw[V]<;>rfl) (by rw[V]<;>rfl)) q (Rl 5 q (Zn (Rcc 7 q (bl q (Rcc 3 q (WC.weak (st':=(dT 13 209 195 5)) Tv (WC.sub (env':=[(0, .d (D.i .u8 a)),(1, .n a1),(2, .n b2),(8, .fn (.func 214) [] [.pt 13 0])]) Sb (Rcl 4 q ?_)))))))))
 obtain⟨fr,fu,h⟩:=aC h
 refine WL.inl (us:=[.n a1, .n b2, .pt 13 0]) (λrv st'=>(fr ()=some r∧Le rv (.tu [.n (f195 a1 b2), .d (D.b true)])∧SLe st' (dT 13 209 195 5))) q q q q q ?_ (Zw q) q q ?_
 refine cI func214 λ_ _ _ _=>?_
 exact Rcl 11 q (wF Z4 (f195_c) Lw Z3 (Rlx 5 q (ar (rs2 q (ap q) (ap q)) ⟨h,(Le.tu Lw),Tv⟩)))
 rintro rv st1 ⟨h,hr,hst⟩
 subst fu
 dsimp only at h
 exact WL.cast 32 q hr (WL.weak hst (Rl 4 q (Zn (Rcx 1 q (FA h)))))
 rcases bP h with⟨X,h⟩|⟨Y,h⟩
 refine Rl 1 q (Zq (bw (λx:Int=>Value.int .u8 x) (λx:AV=>x) _ (k:=a) (z:= .d (.v .nilFunc)) underlying237 underlying146 (KeyF.int .u8) q q q kR q (by rw[X]<;>rfl) (by rw[X]<;>rfl)) q (Rl 5 q (Zn (Rcc 7 q (bl q (Rcc 3 q (WC.weak (st':=(dT 14 209 196 4)) Tv (WC.sub (env':=[(0, .d (D.i .u8 a)),(1, .n a1),(2, .n b2),(8, .fn (.func 214) [] [.pt 14 0])]) Sb (Rcl 4 q ?_)))))))))
 obtain⟨fv,fz,h⟩:=aC h
 refine WL.inl (us:=[.n a1, .n b2, .pt 14 0]) (λrv st'=>(fv ()=some r∧Le rv (.tu [.n (f196 a1 b2), .d (D.b true)])∧SLe st' (dT 14 209 196 4))) q q q q q ?_ (Zw q) q q ?_
 refine cI func214 λ_ _ _ _=>?_
 exact Rcl 11 q (wF Z4 (f196_c) Lw Z3 (Rlx 5 q (ar (rs2 q (ap q) (ap q)) ⟨h,(Le.tu Lw),Tv⟩)))
 rintro rv st1 ⟨h,hr,hst⟩
 subst fz
 dsimp only at h
 exact WL.cast 32 q hr (WL.weak hst (Rl 4 q (Zn (Rcx 1 q (FA h)))))
 rcases bP h with⟨Z,h⟩|⟨ad,h⟩
 refine Rl 1 q (Zq (bw (λx:Int=>Value.int .u8 x) (λx:AV=>x) _ (k:=a) (z:= .d (.v .nilFunc)) underlying237 underlying146 (KeyF.int .u8) q q q kR q (by rw[Z]<;>rfl) (by rw[Z]<;>rfl)) q (Rl 5 q (Zn (Rcc 7 q (bl q (Rcc 3 q (WC.weak (st':=(dT 15 209 197 3)) Tv (WC.sub (env':=[(0, .d (D.i .u8 a)),(1, .n a1),(2, .n b2),(8, .fn (.func 214) [] [.pt 15 0])]) Sb (Rcl 4 q ?_)))))))))
 obtain⟨f0,f1,h⟩:=aC h
 refine WL.inl (us:=[.n a1, .n b2, .pt 15 0]) (λrv st'=>(f0 ()=some r∧Le rv (.tu [.n (f197 a1 b2), .d (D.b true)])∧SLe st' (dT 15 209 197 3))) q q q q q ?_ (Zw q) q q ?_
 refine cI func214 λ_ _ _ _=>?_
 exact Rcl 11 q (wF Z4 (f197_c) Lw Z3 (Rlx 5 q (ar (rs2 q (ap q) (ap q)) ⟨h,(Le.tu Lw),Tv⟩)))
 rintro rv st1 ⟨h,hr,hst⟩
 subst f1
 dsimp only at h
 exact WL.cast 32 q hr (WL.weak hst (Rl 4 q (Zn (Rcx 1 q (FA h)))))
 rcases bP h with⟨ag,h⟩|⟨ax,h⟩
 refine Rl 1 q (Zq (bw (λx:Int=>Value.int .u8 x) (λx:AV=>x) _ (k:=a) (z:= .d (.v .nilFunc)) underlying237 underlying146 (KeyF.int .u8) q q q kR q (by rw[ag]<;>rfl) (by rw[ag]<;>rfl)) q (Rl 5 q (Zn (Rcc 7 q (bl q (Rcc 3 q (WC.weak (st':=(dT 16 209 198 2)) Tv (WC.sub (env':=[(0, .d (D.i .u8 a)),(1, .n a1),(2, .n b2),(8, .fn (.func 214) [] [.pt 16 0])]) Sb (Rcl 4 q ?_)))))))))
 obtain⟨f2,f3,h⟩:=aC h
 refine WL.inl (us:=[.n a1, .n b2, .pt 16 0]) (λrv st'=>(f2 ()=some r∧Le rv (.tu [.n (f198 a1 b2), .d (D.b true)])∧SLe st' (dT 16 209 198 2))) q q q q q ?_ (Zw q) q q ?_
 refine cI func214 λ_ _ _ _=>?_
 exact Rcl 11 q (wF Z4 (f198_c) Lw Z3 (Rlx 5 q (ar (rs2 q (ap q) (ap q)) ⟨h,(Le.tu Lw),Tv⟩)))
 rintro rv st1 ⟨h,hr,hst⟩
 subst f3
 dsimp only at h
 exact WL.cast 32 q hr (WL.weak hst (Rl 4 q (Zn (Rcx 1 q (FA h)))))
 rcases bP h with⟨a0,h⟩|⟨a6,h⟩
 refine Rl 1 q (Zq (bw (λx:Int=>Value.int .u8 x) (λx:AV=>x) _ (k:=a) (z:= .d (.v .nilFunc)) underlying237 underlying146 (KeyF.int .u8) q q q kR q (by rw[a0]<;>rfl) (by rw[a0]<;>rfl)) q (Rl 5 q (Zn (Rcc 7 q (bl q (Rcc 3 q (WC.weak (st':=(dT 17 209 199 1)) Tv (WC.sub (env':=[(0, .d (D.i .u8 a)),(1, .n a1),(2, .n b2),(8, .fn (.func 214) [] [.pt 17 0])]) Sb (Rcl 4 q ?_)))))))))
 obtain⟨f4,f5,h⟩:=aC h
 refine WL.inl (us:=[.n a1, .n b2, .pt 17 0]) (λrv st'=>(f4 ()=some r∧Le rv (.tu [.n (f199 a1 b2), .d (D.b true)])∧SLe st' (dT 17 209 199 1))) q q q q q ?_ (Zw q) q q ?_
 refine cI func214 λ_ _ _ _=>?_
 exact Rcl 11 q (wF Z4 (f199_c) Lw Z3 (Rlx 5 q (ar (rs2 q (ap q) (ap q)) ⟨h,(Le.tu Lw),Tv⟩)))
 rintro rv st1 ⟨h,hr,hst⟩
 subst f5
 dsimp only at h
 exact WL.cast 32 q hr (WL.weak hst (Rl 4 q (Zn (Rcx 1 q (FA h)))))
 rcases bP h with⟨a7,h⟩|⟨a8,h⟩
 refine Rl 1 q (Zq (bw (λx:Int=>Value.int .u8 x) (λx:AV=>x) _ (k:=a) (z:= .d (.v .nilFunc)) underlying237 underlying146 (KeyF.int .u8) q q q kR q (by rw[a7]<;>rfl) (by rw[a7]<;>rfl)) q (Rl 5 q (Zn (Rcc 7 q (bl q (Rcc 3 q (WC.weak (st':=(dT 18 209 200 0)) Tv (WC.sub (env':=[(0, .d (D.i .u8 a)),(1, .n a1),(2, .n b2),(8, .fn (.func 214) [] [.pt 18 0])]) Sb (Rcl 4 q ?_)))))))))
 obtain⟨f7,f8,h⟩:=aC h
 refine WL.inl (us:=[.n a1, .n b2, .pt 18 0]) (λrv st'=>(f7 ()=some r∧Le rv (.tu [.n (f200 a1 b2), .d (D.b true)])∧SLe st' (dT 18 209 200 0))) q q q q q ?_ (Zw q) q q ?_
 refine cI func214 λ_ _ _ _=>?_
 exact Rcl 11 q (wF Z4 (f200_c) Lw Z3 (Rlx 5 q (ar (rs2 q (ap q) (ap q)) ⟨h,(Le.tu Lw),Tv⟩)))
 rintro rv st1 ⟨h,hr,hst⟩
 subst f8
 dsimp only at h
 exact WL.cast 32 q hr (WL.weak hst (Rl 4 q (Zn (Rcx 1 q (FA h)))))
 refine Rl 1 q (Zq (bw (λx:Int=>Value.int .u8 x) (λx:AV=>x) _ (k:=a) (z:= .d (.v .nilFunc)) underlying237 underlying146 (KeyF.int .u8) q q q kR q (by rw[show cM _ a=none from(aV t (aV y (aV B (aV E (aV G (aV I (aV K (aV M (aV O (aV Q (aV S (aV U (aV W (aV Y (aV ad (aV ax (aV a6 (aV a8 np))))))))))))))))))]<;>rfl) (by rw[show cM _ a=none from(aV t (aV y (aV B (aV E (aV G (aV I (aV K (aV M (aV O (aV Q (aV S (aV U (aV W (aV Y (aV ad (aV ax (aV a6 (aV a8 np))))))))))))))))))]<;>rfl)) q (Rl 5 q ?_))
 exact Zn (Rcc 7 q (cv q (Rcx 8 q (FA h))))

theorem f88_c{tR:Nat→Int}{tP:Int}{tX:Int}{tD:Int}{mI:lN}{mH:lH}{mO:lO}{mE:Int}{mN:lI}{mS:lL}{mU:lI}{tA:lA}{x1:aB}{vo:Nat}{vf:Nat}{vu:Nat}{va:Nat}{r:Rs ((Nat→Int)×Int×Int×Int)}(h:f88 tR tP tX tD mI mH mO mE mN mS mU tA x1=some r):CtrP prog 88 [.pt 0 0, .d (.ag (R45 x1))] (wT tR tP tX tD va mI mH mO mE vo mN vu vf mS mU tA) (cO 6 (λr' new=>∃(z:(Nat→Int)×Int×Int×Int),r= .ok z∧r'= .d (.tu [])∧new=[.row 116 (([.pt 1 0]:lV)++(aX 16 (λj=> .n (z.1 j))++([.n z.2.1, .n z.2.2.1, .n z.2.2.2, .os 5 va]:lV):lV)), .row 90 (mR mI mH mO mE 2 vo mN 4 vu),oS vo 3 vf mS,fS vf mS,uS vu mU, .os 58 6 va (eM R58 tA)])) (eH 6 (λc new=>∃(ee:Int),r= .bad ee∧c=cZ ee∧new=(wD mI mH mO mE vo mN vu vf mS mU))):=by
 unfold f88 at h
 refine bF func88 kR q q q (λmm φφ ww hmm=>?_)
 refine Rcl 2 q (Bd q q (Zs _) q (Rlc 3 q (ao kR kR (Rq 10 q ?_))))
 replace h:=aD h
 obtain⟨e,h⟩:=h
 refine WQ.qn (aE dZ q q (bB e) (bz e)) q (WQ.qn (cA (off:=1) (n:=16) (λj=> .n (tR j)) q q a2 q e) q (Rq 6 q ?_))
 replace h:=aD h
 obtain⟨f,h⟩:=h
 refine WQ.qn (aE dZ q q (bB f) (bz f)) q (WQ.qn (cA (off:=1) (n:=16) (λj=> .n (tR j)) q q a2 q f) q ?_)
 obtain⟨g,p,h⟩:=ab h
 refine WQ.q (YieldsQ.fn q q q q q (f132_c p) Lw) (Zw q) q q (Rq 5 q (WQ.nil (Rxc 8 q (Ci h q (λh=>?_) λh=>?_))))
 refine aF (WLP.wing [] q q q q (f102_c (r:=Rs.bad 280) q) Zt q dC q Zt q q (Zw q) q q (λr' new hS=>?_) λc new hS=>?_)
 obtain⟨z9,hz,_⟩:=hS
 cases hz
 obtain⟨z9,hz,rfl,rfl⟩:=hS
 obtain rfl:=Rs.bad.inj hz
 refine⟨_,q,q,?_⟩
 refine be ?_
 obtain rfl:=Oi h
 exact bj (new:=(wD mI mH mO mE vo mN vu vf mS mU)) q ⟨Zt,Zp,Zf,Zf,Zf,Zt,Zt⟩ ⟨_,q,q,q⟩
 refine Rcc 3 q ?_
 replace h:=aD h
 obtain⟨k,h⟩:=h
 apply RT [_,_,_,_,_,_,_,_, .u] [8] [[.row 116 (([.pt 1 0]:lV)++(aX 16 (λj=> .n ((bW tR (Int.toNat x1.d) g.1) j))++([.n tP, .n tX, .n tD, .os 5 va]:lV):lV)), .row 90 (mR mI mH mO mE 2 vo mN 4 vu),oS vo 3 vf mS,fS vf mS,uS vu mU, .os 58 6 va (eM R58 tA)]] [p01 0,p01 3,p10 1,p01 4,p10 0,p10 4,p10 5,p20 6 2,p20 7 3] kR kR q q
 refine Y7 ?_
 refine zo (λ_=>Zq (aE dZ q q (bB k) (bz k)) q (Zd q q q)) ?_
 exact zo (λ_=>WL.s0 (di (off:=1) (n:=16) (cs':=(([.pt 1 0]:lV)++(aX 16 (λj=> .n ((bW tR (Int.toNat x1.d) g.1) j))++([.n tP, .n tX, .n tD, .os 5 va]:lV):lV))) (λx=> .n x) tR g.1 q q q (fb q) s2 q q k q) (Zw q) q (aJ q q)) Zt
 refine Rxc 1 q (aF (WLP.pre 1 (Rl 1 q (WL.nil ?_))))
 obtain⟨t,m,h⟩:=ab h
 rcases t with a|w
 dsimp only[Rs.cs] at h
 refine WLP.wing [0,1,2,3,4,5] q q q q (f131_c m) Lw q dC (Re (Re (Rg (Rf (Ro (Ro q)))))) ⟨q,q,q,q,q,q,Zt⟩ Kv q (Zw q) q q (λr' new hS=>?_) (λc new hS=>?_)
 obtain⟨z9,hz,rfl,rfl⟩:=hS
 obtain rfl:=Rs.ok.inj hz
 refine⟨_,_,q,(Re (Re (Rg (Rf (Ro (Ro q)))))),q,Kv,WLP.of ?_⟩
 refine St q (WL.nil (cm ?_))
 obtain rfl:=Oi h
 exact WE.finP (ay (new:=[.row 116 (([.pt 1 0]:lV)++(aX 16 (λj=> .n (a.1 j))++([.n a.2.1, .n a.2.2.1, .n a.2.2.2, .os 5 va]:lV):lV)), .row 90 (mR mI mH mO mE 2 vo mN 4 vu),oS vo 3 vf mS,fS vf mS,uS vu mU, .os 58 6 va (eM R58 tA)]) (r0:= .d (.tu [])) (dp q) (aK Zt) q ⟨Zp,Zp,Zf,Zf,Zf,Zf,Zt⟩ ⟨_,q,q,q⟩)
 obtain⟨z9,hz,_⟩:=hS
 cases hz
 dsimp only[Rs.cs] at h
 refine WLP.wing [0,1,2,3,4,5] q q q q (f131_c m) Lw q dC (Re (Re (Rg (Rf (Ro (Ro q)))))) ⟨q,q,q,q,q,q,Zt⟩ Kv q (Zw q) q q (λr' new hS=>?_) (λc new hS=>?_)
 obtain⟨z9,hz,_⟩:=hS
 cases hz
 obtain⟨z9,hz,rfl,rfl⟩:=hS
 obtain rfl:=Rs.bad.inj hz
 refine⟨_,(Re (Re (Rg (Rf (Ro (Re q)))))),Kv,?_⟩
 refine cJ (st':=(wD mI mH mO mE vo mN vu vf mS mU)) q ?_
 obtain rfl:=Oi h
 exact bj (new:=(wD mI mH mO mE vo mN vu vf mS mU)) q ⟨Zt,Zp,Zf,Zf,Zf,Zt,Zt⟩ ⟨_,q,q,q⟩

theorem f47_c{mI:lN}{mH:lH}{mO:lO}{mE:Int}{mN:lI}{mS:lL}{mU:lI}{vo:Nat}{vf:Nat}{vu:Nat}{r:Bool}(h:f47 mI mH mO mE mN mS mU=some r):Ctr prog 47 [.pt 0 0] (wM mI mH mO mE vo mN vu vf mS mU) (cO 4 (λr' new=>r'= .d (.b r)∧new=(wM mI mH mO mE vo mN vu vf mS mU))):=by
 unfold f47 at h
 refine cI func47 λ_ _ _ hmm=>?_
 refine Rcl 8 q (Zq (sB underlying46 q) q (Rl 5 q (Zy (ac E45 mI e23 q q Zl) q q q (Rlx 6 q ?_))))
 obtain rfl:=Oi h
 exact ay (new:=(wM mI mH mO mE vo mN vu vf mS mU)) (r0:= .d (.b (decide ((List.length mI:Int)=0)))) (rs1 q (ap q)) Zl q ⟨Zp,Zf,Zf,Zf,Zt⟩ ⟨q,q⟩

theorem f46_c{tR:Nat→Int}{tP:Int}{tX:Int}{tD:Int}{mI:lN}{mH:lH}{mO:lO}{mE:Int}{mN:lI}{mS:lL}{mU:lI}{tA:lA}{o1:Int}{vo:Nat}{vf:Nat}{vu:Nat}{va:Nat}{r:Nat}(h:f46 tR tP tX tD mI mH mO mE mN mS mU tA o1=some r):Ctr prog 46 [.pt 0 0, .d (D.i .u8 o1)] (wT tR tP tX tD va mI mH mO mE vo mN vu vf mS mU tA) (cO 6 (λr' new=>r'= .fn (.func r) [.pt 0 0] []∧new=(wT tR tP tX tD va mI mH mO mE vo mN vu vf mS mU tA))):=by
 unfold f46 at h
 refine cI func46 λ_ _ _ hmm=>?_
 refine Rcc 12 q (Jn1 (λa=> [(0, .pt 0 0),(5, .d (D.i .u8 o1)),(6, .d (D.b a))]) (λ_=>(wT tR tP tX tD va mI mH mO mE vo mN vu vf mS mU tA)) h (λ_ h=>?_) λa h=>?_)
 refine Rcc 6 q (Ci h q (λh=>Rcx 1 q (En1 h)) λh=>?_)
 exact Rcc 6 q (Ci h q (λh=>Rcx 1 q (En1 h)) λh=>Rcx 4 q (En1 h))
 refine Ci h q (λh=>?_) (λh=>?_)
 refine Rcx 10 q ?_
 obtain rfl:=Oi h
 exact ay (new:=(wT tR tP tX tD va mI mH mO mE vo mN vu vf mS mU tA)) (r0:= .fn (.func 81) [.pt 0 0] []) (rs1 q (ap q)) Zl q ⟨Zp,Zp,Zf,Zf,Zf,Zf,Zt⟩ ⟨q,q⟩
 refine Jn1 (λc=> [(0, .pt 0 0),(5, .d (D.i .u8 o1)),(12, .d (D.b c))]) (λ_=>(wT tR tP tX tD va mI mH mO mE vo mN vu vf mS mU tA)) h (λ_ h=>?_) (λc h=>?_)
 refine Rcc 6 q (Ci h q (λh=>Rcx 1 q (En1 h)) λh=>?_)
 exact Rcc 6 q (Ci h q (λh=>Rcx 1 q (En1 h)) λh=>Rcx 4 q (En1 h))
 refine Ci h q (λh=>?_) (λh=>?_)
 refine Rcx 10 q ?_
 obtain rfl:=Oi h
 exact ay (new:=(wT tR tP tX tD va mI mH mO mE vo mN vu vf mS mU tA)) (r0:= .fn (.func 82) [.pt 0 0] []) (rs1 q (ap q)) Zl q ⟨Zp,Zp,Zf,Zf,Zf,Zf,Zt⟩ ⟨q,q⟩
 refine Jn1 (λe=> [(0, .pt 0 0),(5, .d (D.i .u8 o1)),(18, .d (D.b e))]) (λ_=>(wT tR tP tX tD va mI mH mO mE vo mN vu vf mS mU tA)) h (λ_ h=>?_) (λe h=>?_)
 refine Rcc 6 q (Ci h q (λh=>Rcx 1 q (En1 h)) λh=>?_)
 refine Rcc 6 q (Ci h q (λh=>Rcx 1 q (En1 h)) λh=>?_)
 exact Rcc 6 q (Ci h q (λh=>Rcx 1 q (En1 h)) λh=>Rcx 4 q (En1 h))
 refine Ci h q (λh=>?_) (λh=>?_)
 refine Rcx 10 q ?_
 obtain rfl:=Oi h
 exact ay (new:=(wT tR tP tX tD va mI mH mO mE vo mN vu vf mS mU tA)) (r0:= .fn (.func 83) [.pt 0 0] []) (rs1 q (ap q)) Zl q ⟨Zp,Zp,Zf,Zf,Zf,Zf,Zt⟩ ⟨q,q⟩
 refine Jn1 (λf=> [(0, .pt 0 0),(5, .d (D.i .u8 o1)),(25, .d (D.b f))]) (λ_=>(wT tR tP tX tD va mI mH mO mE vo mN vu vf mS mU tA)) h (λ_ h=>?_) (λf h=>?_)
 exact Rcc 6 q (Ci h q (λh=>Rcx 1 q (En1 h)) λh=>Rcx 4 q (En1 h))
 refine Ci h q (λh=>?_) (λh=>?_)
 refine Rcx 10 q ?_
 obtain rfl:=Oi h
 exact ay (new:=(wT tR tP tX tD va mI mH mO mE vo mN vu vf mS mU tA)) (r0:= .fn (.func 84) [.pt 0 0] []) (rs1 q (ap q)) Zl q ⟨Zp,Zp,Zf,Zf,Zf,Zf,Zt⟩ ⟨q,q⟩
 refine Jn1 (λg=> [(0, .pt 0 0),(5, .d (D.i .u8 o1)),(30, .d (D.b g))]) (λ_=>(wT tR tP tX tD va mI mH mO mE vo mN vu vf mS mU tA)) h (λ_ h=>?_) (λg h=>?_)
 refine Rcc 6 q (Ci h q (λh=>Rcx 1 q (En1 h)) λh=>?_)
 exact Rcc 6 q (Ci h q (λh=>Rcx 1 q (En1 h)) λh=>Rcx 4 q (En1 h))
 refine Ci h q (λh=>?_) (λh=>?_)
 refine Rcx 10 q ?_
 obtain rfl:=Oi h
 exact ay (new:=(wT tR tP tX tD va mI mH mO mE vo mN vu vf mS mU tA)) (r0:= .fn (.func 85) [.pt 0 0] []) (rs1 q (ap q)) Zl q ⟨Zp,Zp,Zf,Zf,Zf,Zf,Zt⟩ ⟨q,q⟩
 refine Jn1 (λj=> [(0, .pt 0 0),(5, .d (D.i .u8 o1)),(36, .d (D.b j))]) (λ_=>(wT tR tP tX tD va mI mH mO mE vo mN vu vf mS mU tA)) h (λ_ h=>?_) (λj h=>?_)
 refine Rcc 6 q (Ci h q (λh=>Rcx 1 q (En1 h)) λh=>?_)
 exact Rcc 6 q (Ci h q (λh=>Rcx 1 q (En1 h)) λh=>Rcx 4 q (En1 h))
 refine Ci h q (λh=>?_) (λh=>?_)
 refine Rcx 10 q ?_
 obtain rfl:=Oi h
 exact ay (new:=(wT tR tP tX tD va mI mH mO mE vo mN vu vf mS mU tA)) (r0:= .fn (.func 86) [.pt 0 0] []) (rs1 q (ap q)) Zl q ⟨Zp,Zp,Zf,Zf,Zf,Zf,Zt⟩ ⟨q,q⟩
 refine Jn1 (λk=> [(0, .pt 0 0),(42, .d (D.b k))]) (λ_=>(wT tR tP tX tD va mI mH mO mE vo mN vu vf mS mU tA)) h (λ_ h=>?_) (λk h=>?_)
 refine Rcc 6 q (Ci h q (λh=>Rcx 1 q (En1 h)) λh=>?_)
 refine Rcc 6 q (Ci h q (λh=>Rcx 1 q (En1 h)) λh=>?_)
 refine Rcc 6 q (Ci h q (λh=>Rcx 1 q (En1 h)) λh=>?_)
 exact Rcc 6 q (Ci h q (λh=>Rcx 1 q (En1 h)) λh=>Rcx 4 q (En1 h))
 refine Ci h q (λh=>?_) (λh=>?_)
 refine Rcx 10 q ?_
 obtain rfl:=Oi h
 exact ay (new:=(wT tR tP tX tD va mI mH mO mE vo mN vu vf mS mU tA)) (r0:= .fn (.func 87) [.pt 0 0] []) (rs1 q (ap q)) Zl q ⟨Zp,Zp,Zf,Zf,Zf,Zf,Zt⟩ ⟨q,q⟩
 refine Rcx 11 q ?_
 obtain rfl:=Oi h
 exact ay (new:=(wT tR tP tX tD va mI mH mO mE vo mN vu vf mS mU tA)) (r0:= .fn (.func 88) [.pt 0 0] []) (rs1 q (ap q)) Zl q ⟨Zp,Zp,Zf,Zf,Zf,Zf,Zt⟩ ⟨q,q⟩

theorem fm_c{n:Nat}{tR:Nat→Int}{tP:Int}{tX:Int}{tD:Int}{mI:lN}{mH:lH}{mO:lO}{mE:Int}{mN:lI}{mS:lL}{mU:lI}{tA:lA}{x:aB}{vo vf vu va:Nat}{r:Rs ((Nat→Int)×Int×Int×Int×lI×lL×lI×lA)}(h:fm n tR tP tX tD mI mH mO mE mN mS mU tA x=some r):CtrP prog n [.pt 0 0, .d (.ag (R45 x))] (wT tR tP tX tD va mI mH mO mE vo mN vu vf mS mU tA) (cO 6 (λr' new=>∃(z:(Nat→Int)×Int×Int×Int×lI×lL×lI×lA)(i3 i4 i5:Nat),r= .ok z∧r'= .d (.tu [])∧new=[.row 116 (([.pt 1 0]:lV)++(aX 16 (λj=> .n (z.1 j))++([.n z.2.1, .n z.2.2.1, .n z.2.2.2.1, .os 5 i5]:lV):lV)), .row 90 (mR mI mH mO mE 2 vo z.2.2.2.2.1 4 i4), .os 42 1 vo (bt 3 i3 (List.length z.2.2.2.2.2.1)), .fam 2 1 i3 (bi E2 z.2.2.2.2.2.1), .os 2 1 i4 (eM E2 z.2.2.2.2.2.2.1), .os 58 6 i5 (eM R58 z.2.2.2.2.2.2.2)])) (eH 6 (λc new=>∃(ee:Int),r= .bad ee∧c=cZ ee∧new=(wD mI mH mO mE vo mN vu vf mS mU))):=by
 unfold fm at h
 rcases dI h with⟨hn,h⟩|⟨_,h⟩
 have hn:=nbE hn
 subst hn
 obtain⟨r0,hr,h⟩:=ab h
 obtain rfl:=Oi h
 refine CtrP.mono (f81_c hr) ?_ ?_
 rintro r1 st1 ⟨hk,z,hz,a,hst⟩
 subst hz
 exact⟨hk,_,vf,vu,va,q,a,hst⟩
 rintro c st1 ⟨hk,ee,hz,hc,hst⟩
 subst hz
 exact⟨hk,_,q,hc,hst⟩
 rcases dI h with⟨hn,h⟩|⟨_,h⟩
 have hn:=nbE hn
 subst hn
 obtain⟨r0,hr,h⟩:=ab h
 obtain rfl:=Oi h
 refine CtrP.mono (f82_c hr) ?_ ?_
 rintro r1 st1 ⟨hk,z,j3,hz,a,hst⟩
 subst hz
 exact⟨hk,_,j3,vu,va,q,a,hst⟩
 rintro c st1 ⟨hk,ee,hz,hc,hst⟩
 subst hz
 exact⟨hk,_,q,hc,hst⟩
 rcases dI h with⟨hn,h⟩|⟨_,h⟩
 have hn:=nbE hn
 subst hn
 obtain⟨r0,hr,h⟩:=ab h
 obtain rfl:=Oi h
 refine CtrP.mono (f83_c hr) ?_ ?_
 rintro r1 st1 ⟨hk,z,hz,a,hst⟩
 subst hz
 exact⟨hk,_,vf,vu,va,q,a,hst⟩
 rintro c st1 ⟨hk,ee,hz,hc,hst⟩
 subst hz
 exact⟨hk,_,q,hc,hst⟩
 rcases dI h with⟨hn,h⟩|⟨_,h⟩
 have hn:=nbE hn
 subst hn
 obtain⟨r0,hr,h⟩:=ab h
 obtain rfl:=Oi h
 refine CtrP.mono (f84_c hr) ?_ ?_
 rintro r1 st1 ⟨hk,z,j5,hz,a,hst⟩
 subst hz
 exact⟨hk,_,vf,vu,j5,q,a,hst⟩
 rintro c st1 ⟨hk,ee,hz,hc,hst⟩
 subst hz
 exact⟨hk,_,q,hc,hst⟩
 rcases dI h with⟨hn,h⟩|⟨_,h⟩
 have hn:=nbE hn
 subst hn
 obtain⟨r0,hr,h⟩:=ab h
 obtain rfl:=Oi h
 refine CtrP.mono (f85_c hr) ?_ ?_
 rintro r1 st1 ⟨hk,z,j5,hz,a,hst⟩
 subst hz
 exact⟨hk,_,vf,vu,j5,q,a,hst⟩
 rintro c st1 ⟨hk,ee,hz,hc,hst⟩
 subst hz
 exact⟨hk,_,q,hc,hst⟩
 rcases dI h with⟨hn,h⟩|⟨_,h⟩
 have hn:=nbE hn
 subst hn
 obtain⟨r0,hr,h⟩:=ab h
 obtain rfl:=Oi h
 refine CtrP.mono (f86_c hr) ?_ ?_
 rintro r1 st1 ⟨hk,z,j4,j5,hz,a,hst⟩
 subst hz
 exact⟨hk,_,vf,j4,j5,q,a,hst⟩
 rintro c st1 ⟨hk,ee,hz,hc,hst⟩
 subst hz
 exact⟨hk,_,q,hc,hst⟩
 rcases dI h with⟨hn,h⟩|⟨_,h⟩
 have hn:=nbE hn
 subst hn
 obtain⟨r0,hr,h⟩:=ab h
 obtain rfl:=Oi h
 refine CtrP.mono (f87_c hr) ?_ ?_
 rintro r1 st1 ⟨hk,z,hz,a,hst⟩
 subst hz
 exact⟨hk,_,vf,vu,va,q,a,hst⟩
 rintro c st1 ⟨hk,ee,hz,hc,hst⟩
 subst hz
 exact⟨hk,_,q,hc,hst⟩
 rcases dI h with⟨hn,h⟩|⟨_,h⟩
 have hn:=nbE hn
 subst hn
 obtain⟨r0,hr,h⟩:=ab h
 obtain rfl:=Oi h
 refine CtrP.mono (f88_c hr) ?_ ?_
 rintro r1 st1 ⟨hk,z,hz,a,hst⟩
 subst hz
 exact⟨hk,_,vf,vu,va,q,a,hst⟩
 rintro c st1 ⟨hk,ee,hz,hc,hst⟩
 subst hz
 exact⟨hk,_,q,hc,hst⟩
 cases h

theorem f45_c{tR:Nat→Int}{tP:Int}{tX:Int}{tD:Int}{mI:lN}{mH:lH}{mO:lO}{mE:Int}{mN:lI}{mS:lL}{mU:lI}{tA:lA}{vo:Nat}{vf:Nat}{vu:Nat}{va:Nat}{r:Rs ((Nat→Int)×Int×Int×Int×lI×lL×lI×lA)}(h:f45 tR tP tX tD mI mH mO mE mN mS mU tA=some r):CtrP prog 45 [.pt 0 0] (wT tR tP tX tD va mI mH mO mE vo mN vu vf mS mU tA) (cO 6 (λr' new=>∃(z:(Nat→Int)×Int×Int×Int×lI×lL×lI×lA)(i3 i4 i5:Nat),r= .ok z∧r'= .d (.tu [])∧new=[.row 116 (([.pt 1 0]:lV)++(aX 16 (λj=> .n (z.1 j))++([.n z.2.1, .n z.2.2.1, .n z.2.2.2.1, .os 5 i5]:lV):lV)), .row 90 (mR mI mH mO mE 2 vo z.2.2.2.2.1 4 i4), .os 42 1 vo (bt 3 i3 (List.length z.2.2.2.2.2.1)), .fam 2 1 i3 (bi E2 z.2.2.2.2.2.1), .os 2 1 i4 (eM E2 z.2.2.2.2.2.2.1), .os 58 6 i5 (eM R58 z.2.2.2.2.2.2.2)])) (eH 6 (λc new=>∃(ee:Int),r= .bad ee∧c=cZ ee∧new=(wD mI mH mO mE vo mN vu vf mS mU))):=by
 unfold f45 at h
 refine bF func45 kR q q q (λmm φφ ww hmm=>?_)
 refine Rcc 1 q ?_
 obtain⟨e,g,h⟩:=ab h
 apply RT [_,_,_,_,_,_,_,_,_,_,_,_,_,_,_, .u] [14,15] [[.row 116 (tQ 1 tR tP tX tD 5 va), .row 90 (mR mI mH mO mE 2 vo mN 4 vu),oS vo 3 vf mS,fS vf mS,uS vu mU, .os 58 6 va (eM R58 tA), .row 45 [.d (D.i .u8 0), .n 0, .n 0, .n 0, .n 0, .n 0, .n 0]],[.row 116 (tQ 1 tR tP tX tD 5 va), .row 90 (mR mI mH mO mE 2 vo mN 4 vu),oS vo 3 vf mS,fS vf mS,uS vu mU, .os 58 6 va (eM R58 tA), .row 45 [.d (D.i .u8 e.op), .n e.d, .n e.a, .n e.b, .n e.n, .n e.m, .n e.to]]] [u01 0,u10 0,u10 1,u10 2,u10 3,u10 4,u10 5,u01 0,u10 7,u10 8,u10 9,u10 10,u20 6 11,u10 12,p00,q20 14 13 1] kR kR q q
 refine X2d ?_
 refine X2d ?_
 refine X2d ?_
 refine⟨⟨λ_=>Zq (ai e23 q Zl q (ae g) (az dr g) q) q (Zd q q q),λ_=>Zq (ai e23 q Zl q (ae g) (az dr g) q) q (Zd q q q),Zt⟩,?_⟩
 refine X2a ?_
 refine zo (λ_=>Al z45 q (Zd q q q)) ?_
 exact zo (λ_=>sS Z6 s45 Z2 (aJ q q)) Zt
 refine Rxl 6 q (wF Z4 (f36_c) Lw Z3 (Rlc 3 q (Ci h q (λh=>?_) λh=>?_)))
 refine aF (WLP.pre 2 (Zq (aa p118 vJ q q) q (Zq (gS (p:= .ag (R118 (pB.mk 8))) kR q (ah (Zs _))) q (WL.nil (q6 q q (be ?_))))))
 obtain rfl:=Oi h
 exact bj (new:=(wD mI mH mO mE vo mN vu vf mS mU)) q ⟨Zt,Zp,Zf,Zf,Zf,Zt,Zt⟩ ⟨_,q,q,q⟩
 refine Rcc 2 q ?_
 obtain⟨x,t,h⟩:=ab h
 apply lw [_,_,_,_,_, .u] [[],[],[1],[0,1,2],[],[0,1,2,3,4]] [] (λc=>List.getD [[.row 116 (tQ 1 tR tP tX tD 5 va), .row 90 (mR mI mH mO mE 2 vo mN 4 vu),oS vo 3 vf mS,fS vf mS,uS vu mU, .os 58 6 va (eM R58 tA), .row 45 [.d (D.i .u8 e.op), .n e.d, .n e.a, .n e.b, .n e.n, .n e.m, .n e.to]]] c []) [([],[0],[0]),([],[2],[0]),([1],[],[0]),([0,2],[],[0]),([],[2],[0]),([3,4],[],[0])] 5 (l0:=_) (o:=_) (by exact(List.take_append_drop 5 _).symm) q kR kR q q q q
 refine⟨?_,?_,?_,?_,?_,Zt⟩
 exact O1 q (λ_=>q) q q
 exact O1 q (λ_=>q) q q
 exact O1 q (λ_=>q) q q
 refine⟨λF=>?_,Zt⟩
 refine WL.wing [0,1,2,3,4,5] q q q q (f46_c t) Lw q dC (Re (Re (Rg (Rf (Ro (Ro q)))))) ⟨q,q,q,q,q,q,Zt⟩ Kv q (Zw q) q q (λr' new hS=>?_)
 obtain⟨rfl,rfl⟩:=hS
 refine⟨_,_,q,(Re (Re (Rg (Rf (Ro (Ro q)))))),q,Kv,?_⟩
 exact Zd q q q
 exact O1 q (λ_=>q) q q
 obtain⟨w,k,h⟩:=ab h
 rcases w with f|e36
 dsimp only[Rs.cs] at h
 refine WLP.wing [0,1,2,3,4,5] q q q q (fm_c k) ⟨Zl,(ah (Zs _)),Zt⟩ q dC (Re (Re (Rg (Rf (Ro (Ro q)))))) ⟨q,q,q,q,q,q,Zt⟩ Kv q (Zw q) q q (λr' new hS=>?_) (λc new hS=>?_)
 obtain⟨z9,i3_37,i4_37,i5_37,hz,rfl,rfl⟩:=hS
 obtain rfl:=Rs.ok.inj hz
 refine⟨_,_,q,(Re (Re (Rg (Rf (Ro (Ro q)))))),q,Kv,WLP.of ?_⟩
 refine St q (WL.nil (cm ?_))
 obtain rfl:=Oi h
 exact WE.finP (ay (new:=[.row 116 (([.pt 1 0]:lV)++(aX 16 (λj=> .n (f.1 j))++([.n f.2.1, .n f.2.2.1, .n f.2.2.2.1, .os 5 i5_37]:lV):lV)), .row 90 (mR mI mH mO mE 2 vo f.2.2.2.2.1 4 i4_37), .os 42 1 vo (bt 3 i3_37 (List.length f.2.2.2.2.2.1)), .fam 2 1 i3_37 (bi E2 f.2.2.2.2.2.1), .os 2 1 i4_37 (eM E2 f.2.2.2.2.2.2.1), .os 58 6 i5_37 (eM R58 f.2.2.2.2.2.2.2)]) (r0:= .d (.tu [])) (dp q) (aK Zt) q ⟨Zp,Zp,Zf,Zf,Zf,Zf,Zt⟩ ⟨_,i3_37,i4_37,i5_37,q,q,q⟩)
 obtain⟨z9,hz,_⟩:=hS
 cases hz
 dsimp only[Rs.cs] at h
 refine WLP.wing [0,1,2,3,4,5] q q q q (fm_c k) ⟨Zl,(ah (Zs _)),Zt⟩ q dC (Re (Re (Rg (Rf (Ro (Ro q)))))) ⟨q,q,q,q,q,q,Zt⟩ Kv q (Zw q) q q (λr' new hS=>?_) (λc new hS=>?_)
 obtain⟨z9,i3_37,i4_37,i5_37,hz,_⟩:=hS
 cases hz
 obtain⟨z9,hz,rfl,rfl⟩:=hS
 obtain rfl:=Rs.bad.inj hz
 refine⟨_,(Re (Re (Rg (Rf (Ro (Re q)))))),Kv,?_⟩
 refine cJ (st':=[.z, .row 90 (mR mI mH mO mE 2 vo mN 4 vu),oS vo 3 vf mS,fS vf mS,uS vu mU, .z, .row 45 [.d (D.i .u8 e.op), .n e.d, .n e.a, .n e.b, .n e.n, .n e.m, .n e.to]]) q ?_
 obtain rfl:=Oi h
 exact bj (new:=(wD mI mH mO mE vo mN vu vf mS mU)) q ⟨Zt,Zp,Zf,Zf,Zf,Zt,Zt⟩ ⟨_,q,q,q⟩

theorem f55_c{tR:Nat→Int}{tP:Int}{tX:Int}{tD:Int}{mI:lN}{mH:lH}{mO:lO}{mE:Int}{mN:lI}{mS:lL}{mU:lI}{tA:lA}{a:Int}{vo:Nat}{vf:Nat}{vu:Nat}{va:Nat}{r:Rs ((Nat→Int)×Int×Int×Int×lA)}(h:f55 tR tP tX tD mI mH mO mE mN mS mU tA a=some r):CtrP prog 55 [.pt 0 0, .d (.pc (E2 a))] (wT tR tP tX tD va mI mH mO mE vo mN vu vf mS mU tA) (cO 6 (λr' new=>∃(z:(Nat→Int)×Int×Int×Int×lA)(i5:Nat),r= .ok z∧r'= .d (.tu [])∧new=[.row 116 (([.pt 1 0]:lV)++(aX 16 (λj=> .n (z.1 j))++([.n z.2.1, .n z.2.2.1, .n z.2.2.2.1, .os 5 i5]:lV):lV)), .row 90 (mR mI mH mO mE 2 vo mN 4 vu),oS vo 3 vf mS,fS vf mS,uS vu mU, .os 58 6 i5 (eM R58 z.2.2.2.2)])) (eH 6 (λc new=>∃(ee:Int),r= .bad ee∧c=cZ ee∧new=(wD mI mH mO mE vo mN vu vf mS mU))):=by
 unfold f55 at h
 refine bF func55 kR q q q (λmm φφ ww hmm=>?_)
 refine aF (WLP.pre 2 (Rl 2 q (WL.nil ?_)))
 obtain⟨r8,e,h⟩:=ab h
 rcases r8 with z9|f
 dsimp only[Rs.cs] at h
 refine WLP.wing [0,1,2,3,4,5] q q q q (f56_c e) Lw q dC (Re (Re (Rg (Rf (Ro (Ro q)))))) ⟨q,q,q,q,q,q,Zt⟩ Kv q (Zw q) q q (λr' new hS=>?_) (λc new hS=>?_)
 obtain⟨z9,i5_11,hz,rfl,rfl⟩:=hS
 obtain rfl:=Rs.ok.inj hz
 refine⟨_,_,q,(Re (Re (Rg (Rf (Ro (Ro q)))))),q,Kv,WLP.of ?_⟩
 refine St q (WL.nil (cm ?_))
 obtain rfl:=Oi h
 exact WE.finP (ay (new:=[.row 116 (([.pt 1 0]:lV)++(aX 16 (λj=> .n (z9.1 j))++([.n z9.2.1, .n z9.2.2.1, .n z9.2.2.2.1, .os 5 i5_11]:lV):lV)), .row 90 (mR mI mH mO mE 2 vo mN 4 vu),oS vo 3 vf mS,fS vf mS,uS vu mU, .os 58 6 i5_11 (eM R58 z9.2.2.2.2)]) (r0:= .d (.tu [])) (dp q) (aK Zt) q ⟨Zp,Zp,Zf,Zf,Zf,Zf,Zt⟩ ⟨_,i5_11,q,q,q⟩)
 obtain⟨z9,hz,_⟩:=hS
 cases hz
 dsimp only[Rs.cs] at h
 refine WLP.wing [0,1,2,3,4,5] q q q q (f56_c e) Lw q dC (Re (Re (Rg (Rf (Ro (Ro q)))))) ⟨q,q,q,q,q,q,Zt⟩ Kv q (Zw q) q q (λr' new hS=>?_) (λc new hS=>?_)
 obtain⟨z9,i5_11,hz,_⟩:=hS
 cases hz
 obtain⟨z9,hz,rfl,rfl⟩:=hS
 obtain rfl:=Rs.bad.inj hz
 refine⟨_,(Re (Re (Rg (Rf (Ro (Re q)))))),Kv,?_⟩
 refine cJ (st':=(wD mI mH mO mE vo mN vu vf mS mU)) q ?_
 obtain rfl:=Oi h
 exact bj (new:=(wD mI mH mO mE vo mN vu vf mS mU)) q ⟨Zt,Zp,Zf,Zf,Zf,Zt,Zt⟩ ⟨_,q,q,q⟩

theorem f58_c{tR:Nat→Int}{tP:Int}{tX:Int}{tD:Int}{mI:lN}{mH:lH}{mO:lO}{mE:Int}{mN:lI}{mS:lL}{mU:lI}{tA:lA}{a:Int}{vo:Nat}{vf:Nat}{vu:Nat}{va:Nat}{r:Rs ((Nat→Int)×Int×Int×Int)}(h:f58 tR tP tX tD mI mH mO mE mN mS mU tA a=some r):CtrP prog 58 [.pt 0 0, .d (.pc (E2 a))] (wT tR tP tX tD va mI mH mO mE vo mN vu vf mS mU tA) (cO 6 (λr' new=>∃(z:(Nat→Int)×Int×Int×Int),r= .ok z∧r'= .d (.tu [])∧new=[.row 116 (([.pt 1 0]:lV)++(aX 16 (λj=> .n (z.1 j))++([.n z.2.1, .n z.2.2.1, .n z.2.2.2, .os 5 va]:lV):lV)), .row 90 (mR mI mH mO mE 2 vo mN 4 vu),oS vo 3 vf mS,fS vf mS,uS vu mU, .os 58 6 va (eM R58 tA)])) (eH 6 (λc new=>∃(ee:Int),r= .bad ee∧c=cZ ee∧new=(wD mI mH mO mE vo mN vu vf mS mU))):=by
 unfold f58 at h
 refine bF func58 kR q q q (λmm φφ ww hmm=>?_)
 refine aF (WLP.pre 2 (Rl 2 q (WL.nil ?_)))
 obtain⟨r8,e,h⟩:=ab h
 rcases r8 with z9|f
 dsimp only[Rs.cs] at h
 refine WLP.wing [0,1,2,3,4,5] q q q q (f59_c e) Lw q dC (Re (Re (Rg (Rf (Ro (Ro q)))))) ⟨q,q,q,q,q,q,Zt⟩ Kv q (Zw q) q q (λr' new hS=>?_) (λc new hS=>?_)
 obtain⟨z9,hz,rfl,rfl⟩:=hS
 obtain rfl:=Rs.ok.inj hz
 refine⟨_,_,q,(Re (Re (Rg (Rf (Ro (Ro q)))))),q,Kv,WLP.of ?_⟩
 refine St q (WL.nil (cm ?_))
 obtain rfl:=Oi h
 exact WE.finP (ay (new:=[.row 116 (([.pt 1 0]:lV)++(aX 16 (λj=> .n (z9.1 j))++([.n z9.2.1, .n z9.2.2.1, .n z9.2.2.2, .os 5 va]:lV):lV)), .row 90 (mR mI mH mO mE 2 vo mN 4 vu),oS vo 3 vf mS,fS vf mS,uS vu mU, .os 58 6 va (eM R58 tA)]) (r0:= .d (.tu [])) (dp q) (aK Zt) q ⟨Zp,Zp,Zf,Zf,Zf,Zf,Zt⟩ ⟨_,q,q,q⟩)
 obtain⟨z9,hz,_⟩:=hS
 cases hz
 dsimp only[Rs.cs] at h
 refine WLP.wing [0,1,2,3,4,5] q q q q (f59_c e) Lw q dC (Re (Re (Rg (Rf (Ro (Ro q)))))) ⟨q,q,q,q,q,q,Zt⟩ Kv q (Zw q) q q (λr' new hS=>?_) (λc new hS=>?_)
 obtain⟨z9,hz,_⟩:=hS
 cases hz
 obtain⟨z9,hz,rfl,rfl⟩:=hS
 obtain rfl:=Rs.bad.inj hz
 refine⟨_,(Re (Re (Rg (Rf (Ro (Re q)))))),Kv,?_⟩
 refine cJ (st':=(wD mI mH mO mE vo mN vu vf mS mU)) q ?_
 obtain rfl:=Oi h
 exact bj (new:=(wD mI mH mO mE vo mN vu vf mS mU)) q ⟨Zt,Zp,Zf,Zf,Zf,Zt,Zt⟩ ⟨_,q,q,q⟩

theorem lB{a b c:AV}{st:lW}:DSp prog 80 [a,b,c] st .returning .returning st:=by
 refine nA (v:= .nilIface) (va:= .d (.v .nilIface)) func80 kR q q q q q (λc0 cs hu=>?_) (λ_ _ _=>by simp[RA,RD]) (λmm φφ ww hmm=>?_)
 right
 refine⟨?_,q,q⟩
 simp[recoverD,hu]
 exact WC.sub (env':=[(6, .d (.v .nilIface)),(0, .u),(1, .u),(2, .u)]) (Sx q (Sub.cons q (Le.u _) (Sub.cons q (Le.u _) (Sub.cons q (Le.u _) (Sub.nil _))))) (Rcl 3 q (Zq (ug kR q) q (Rlc 2 q (cv q (Rcx 4 q (cG (SLe.refl _)))))))

theorem lE{e:Int}:DSp prog 80 [.pt 0 0, .pt 1 0, .pt 2 0] [.row 41 n19, .row 50 [sN], .row 47 [.n 0]] (.panicking (cZ e)) (.panicking [{ v:= .iface 118 (.agg ⟨[.int .i64 e]⟩),recovered:=true }]) [.row 41 n19, .row 50 [sN], .row 47 [.n e]]:=by
 refine nA (v:= .iface 118 (.agg ⟨[.int .i64 e]⟩)) (va:= .d (.ifc 118 (.ag [D.i .i64 e]))) func80 kR q q q q q (λc0 cs hu=>?_) (λ_ _ _=>uK q) (λmm φφ ww hmm=>?_)
 left
 refine⟨_,?_,q⟩
 simp[recoverD,hu,cZ]
 refine Rcl 3 q (Zq (uh kR q) q (Rlc 2 q (bl q (Rcl 2 q (Zq (rk kR q) q (Rlc 4 q (cv q (Rcl 2 q (Al vJ q (sS Z6 s118 Z2 (Rlc 2 q ?_)))))))))))
 apply RT [_,_,_, .u, .u, .u] [5] [[.row 41 n19, .row 50 [sN], .row 47 [.n ((pB.mk e).e)], .row 118 [.n ((pB.mk e).e)]]] [p00,p01 4,p10 1,p11 0 0,p01 1,p11 2 2] kR kR q q
 refine zo (λ_=>Zq (aa p41 z41 q q) q (Zd q q q)) ?_
 refine Y2 ?_
 refine zo (λ_=>sS Z6 s41 Z2 (aJ q q)) ?_
 refine zo (λ_=>sS Z6 s50 Z2 (aJ q q)) ?_
 exact zo (λ_=>sS Z6 s47 Z2 (aJ q q)) Zt
 exact Rxx 1 q (WE.drop 3 (env':=[]) (Sub.nil _) q q (Nat.le_trans (Nat.le_of_eq hmm) (nbT q)) (cG ⟨OLe.refl _,OLe.refl _,OLe.refl _,Zt⟩))

theorem f44_45_c{mI:lN}{mH:lH}{mO:lO}{mE:Int}{mN:lI}{mS:lL}{mU:lI}{r1:aq}{k:Bool}{vo:Nat}{vf:Nat}{vu:Nat}{r:aq×lA×Int×lI×lL×lI}(h:f44_45 mI mH mO mE mN mS mU r1 k=some r):Ctr prog 44 [.pt 0 0, .d (.ag (R41 r1)), .d (D.b k), .fn (.func 45) [] []] (wM mI mH mO mE vo mN vu vf mS mU) (cO 4 (λr' new=>∃i2 i3:Nat,r'= .d (.tu [.ag (R41 r.1), .sl (List.map E58 r.2.1), .i .i64 r.2.2.1])∧new=[.row 90 (mR mI mH mO mE 1 vo r.2.2.2.1 3 i3), .os 42 1 vo (bt 2 i2 (List.length r.2.2.2.2.1)), .fam 2 1 i2 (bi E2 r.2.2.2.2.1), .os 2 1 i3 (eM E2 r.2.2.2.2.2)])):=by
 unfold f44_45 at h
 refine jq func44 kR q q q (λmm φφ ww hmm=>?_)
 refine Rcl 2 q (Bd q q (Zs _) q (Al z41 q (Al z50 q (Al z47 q (Rll 7 q ?_)))))
 obtain⟨y,w,h⟩:=ab h
 refine WL.wing [0,1,2,3] q q q q (f47_c w) Lw q dC (Re (Rg (Rf (Ro q)))) ⟨q,q,q,q,Zt⟩ Kv q (Zw q) q q (λr' new hS=>?_)
 obtain⟨rfl,rfl⟩:=hS
 refine⟨_,_,q,(Re (Rg (Rf (Ro q)))),q,Kv,?_⟩
 refine St q (Rlc 3 q (Ci h q (λh=>?_) λh=>?_))
 refine Rcl 2 q (Zq (aa p41 z41 q q) q (sS Z6 s41 Z2 (St q (sS Z6 s50 Z2 (sS Z6 s47 Z2 (Rlx 5 q ?_))))))
 obtain rfl:=Oi h
 exact ay (new:=(wM mI mH mO mE vo mN vu vf mS mU)) (r0:= .d (.tu [.ag (R41 (aq.mk (λj=>0) 0 0 0)), .sl (List.map E58 []), .i .i64 1])) (rs3 q (aO q q a41 s41 q) (dV q q a50 q) (dV q q a47 q)) (aK ⟨(ah (Zs _)),Le.nil,Zl,Zt⟩) q ⟨Zp,Zf,Zf,Zf,Zt⟩ ⟨vf,vu,q,q⟩
 refine Rcc 1 q (ao kR kR (Rq 4 q ?_))
 apply WQ.or 9 (t:=20) (d:=29)
 exact q
 intro A
 exact Rq 6 q (WQ.qy (ac E45 mI e23 q q Zl) q q q (Rq 2 q (WQ.nil ⟨[_,_,_,_,_,_,_,_,_],q,q,q⟩)))
 exact Rq 9 q (WQ.nil ⟨[_,_,_,_,_,_,_,_,_],q,q,q⟩)
 refine Rq 1 q ?_
 apply WQ.or 4 (t:=30) (d:=34)
 exact q
 intro B
 exact Rq 4 q (WQ.nil ⟨[_,_,_,_],q,q,q⟩)
 exact Rq 4 q (WQ.nil ⟨[_,_,_,_],q,q,q⟩)
 refine Rq 1 q ?_
 apply WQ.or 8 (t:=35) (d:=43)
 exact q
 intro C
 exact Rq 8 q (WQ.nil ⟨[_,_,_,_,_,_,_,_],q,q,q⟩)
 exact Rq 8 q (WQ.nil ⟨[_,_,_,_,_,_,_,_],q,q,q⟩)
 refine Rq 1 q ?_
 apply WQ.or 4 (t:=44) (d:=48)
 exact q
 intro E
 exact Rq 4 q (WQ.nil ⟨[_,_,_,_],q,q,q⟩)
 exact Rq 4 q (WQ.nil ⟨[_,_,_,_],q,q,q⟩)
 refine Rq 1 q ?_
 apply WQ.or 4 (t:=49) (d:=53)
 exact q
 intro F
 exact Rq 4 q (WQ.nil ⟨[_,_,_,_],q,q,q⟩)
 exact Rq 4 q (WQ.nil ⟨[_,_,_,_],q,q,q⟩)
 refine Rq 1 q ?_
 apply WQ.or 3 (t:=54) (d:=57)
 exact q
 intro G
 exact Rq 3 q (WQ.nil ⟨[_,_,_],q,q,q⟩)
 exact Rq 3 q (WQ.nil ⟨[_,_,_],q,q,q⟩)
 refine Rq 1 q (WQ.nil (Rxc 1 q (Ci h q (λh=>?_) λh=>?_)))
 refine Rcl 2 q (Zq (aa p41 z41 q q) q (sS Z6 s41 Z2 (St q (sS Z6 s50 Z2 (sS Z6 s47 Z2 (Rlx 5 q ?_))))))
 obtain rfl:=Oi h
 exact ay (new:=(wM mI mH mO mE vo mN vu vf mS mU)) (r0:= .d (.tu [.ag (R41 (aq.mk (λj=>0) 0 0 0)), .sl (List.map E58 []), .i .i64 2])) (rs3 q (aO q q a41 s41 q) (dV q q a50 q) (dV q q a47 q)) (aK ⟨(ah (Zs _)),Le.nil,Zl,Zt⟩) q ⟨Zp,Zf,Zf,Zf,Zt⟩ ⟨vf,vu,q,q⟩
 refine Rcc 4 q (kd (f:=80) (caps:=[.pt 4 0, .pt 5 0, .pt 6 0]) 1 q q q (Rl 1 q (WL.nil ⟨q,λmD φD wD vsD hlenD m=>?_⟩)))
 refine Rxl 5 q (Zq (aa wg vK q q) q (Bx q q q (Rlc 4 q (aF (WLP.pre 2 (Rl 2 q (WL.nil_cell 7 20 58 6 q q (WL.nil ?_))))))))
 obtain⟨x,p,h⟩:=ab h
 rcases x with a|g
 dsimp only[Rs.cs] at h
 refine WLP.wing [7,0,1,2,3,8] q q q q (f45_c p) Lw q dC (Re (Re (Rg (Rf (Ro (Ro q)))))) ⟨q,q,q,q,q,q,Zt⟩ Kv q (Zw q) q q (λr' new hS=>?_) (λc new hS=>?_)
 obtain⟨z9,i3_85,i4_85,i5_85,hz,rfl,rfl⟩:=hS
 obtain rfl:=Rs.ok.inj hz
 refine⟨_,_,q,(Re (Re (Rg (Rf (Ro (Ro q)))))),q,Kv,WLP.of ?_⟩
 refine St q (Zn (Rcc 1 q ?_))
 refine WC.freezeX [] [(7,20)] 8 _ q (al d7 _) Zt ⟨_,_,q,q,Zt⟩ ?_
 apply RT [_,_,_,_,_,_,_,_, .u, .u, .u] [8,9] [[.row 90 (mR mI mH mO mE 1 vo a.2.2.2.2.1 3 i4_85), .os 42 1 vo (bt 2 i3_85 (List.length a.2.2.2.2.2.1)), .fam 2 1 i3_85 (bi E2 a.2.2.2.2.2.1), .os 2 1 i4_85 (eM E2 a.2.2.2.2.2.2.1), .row 41 (rg a.1 a.2.1 a.2.2.1 a.2.2.2.1), .row 50 [sN], .row 47 [.n 0], .row 116 (([.pt 0 0]:lV)++(aX 16 (λj=> .n (a.1 j))++([.n a.2.1, .n a.2.2.1, .n a.2.2.2.1, .l E58 a.2.2.2.2.2.2.2]:lV):lV)), .z],[.row 90 (mR mI mH mO mE 1 vo a.2.2.2.2.1 3 i4_85), .os 42 1 vo (bt 2 i3_85 (List.length a.2.2.2.2.2.1)), .fam 2 1 i3_85 (bi E2 a.2.2.2.2.2.1), .os 2 1 i4_85 (eM E2 a.2.2.2.2.2.2.1), .row 41 (rg a.1 a.2.1 a.2.2.1 a.2.2.2.1), .row 50 [.l E58 a.2.2.2.2.2.2.2], .row 47 [.n 0], .row 116 (([.pt 0 0]:lV)++(aX 16 (λj=> .n (a.1 j))++([.n a.2.1, .n a.2.2.1, .n a.2.2.2.1, .l E58 a.2.2.2.2.2.2.2]:lV):lV)), .z]] [p01 11,p10 0,p10 1,p10 2,u01 11,u10 4,u10 5,u10 6,p11 3 8,q11 7 9 1,q01 10 2] kR kR q q
 refine Y4 ?_
 refine X2d ?_
 refine zo (λ_=>sS Z6 s41 Z2 (aJ q q)) ?_
 refine zo (λ_=>sS Z6 s50 Z2 (aJ q q)) ?_
 exact zo (λ_=>sS Z6 s47 Z2 (aJ q q)) Zt
 refine Rxx 2 q ?_
 obtain rfl:=Oi h
 exact ja (new:=[.row 90 (mR mI mH mO mE 1 vo a.2.2.2.2.1 3 i4_85), .os 42 1 vo (bt 2 i3_85 (List.length a.2.2.2.2.2.1)), .fam 2 1 i3_85 (bi E2 a.2.2.2.2.2.1), .os 2 1 i4_85 (eM E2 a.2.2.2.2.2.2.1)]) (r0:= .d (.tu [.ag (R41 (aq.mk a.1 a.2.1 a.2.2.1 a.2.2.2.1)), .sl (List.map E58 a.2.2.2.2.2.2.2), .i .i64 0])) m (lB) (rs3 q (aO q q a41 s41 q) (dV q q a50 q) (dV q q a47 q)) (aK ⟨(ah (Zs _)),Zl,Zl,Zt⟩) q ⟨Zp,Zf,Zf,Zf,Zt⟩ ⟨i3_85,i4_85,q,q⟩
 obtain⟨z9,hz,_⟩:=hS
 cases hz
 dsimp only[Rs.cs] at h
 refine WLP.wing [7,0,1,2,3,8] q q q q (f45_c p) Lw q dC (Re (Re (Rg (Rf (Ro (Ro q)))))) ⟨q,q,q,q,q,q,Zt⟩ Kv q (Zw q) q q (λr' new hS=>?_) (λc new hS=>?_)
 obtain⟨z9,i3_85,i4_85,i5_85,hz,_⟩:=hS
 cases hz
 obtain⟨z9,hz,rfl,rfl⟩:=hS
 obtain rfl:=Rs.bad.inj hz
 refine⟨_,(Re (Re (Rg (Rf (Ro (Re q)))))),Kv,?_⟩
 refine cJ (st':=[.row 90 (mR mI mH mO mE 1 vo mN 3 vu),oS vo 2 vf mS,fS vf mS,uS vu mU, .row 41 n19, .row 50 [sN], .row 47 [.n 0], .z, .z]) q (be ?_)
 obtain rfl:=Oi h
 exact jb (new:=(wM mI mH mO mE vo mN vu vf mS mU)) (r0:= .d (.tu [.ag (R41 (aq.mk (λj=>0) 0 0 0)), .sl (List.map E58 []), .i .i64 g])) m (ov [4,5,6] (lE (e:=g)) Lw q dC q ⟨q,q,q,Zt⟩ q q q q q (st':=[.row 90 (mR mI mH mO mE 1 vo mN 3 vu),oS vo 2 vf mS,fS vf mS,uS vu mU, .row 41 n19, .row 50 [sN], .row 47 [.n g], .z, .z]) q) q (rs3 q (aO q q a41 s41 q) (dV q q a50 q) (dV q q a47 q)) (aK ⟨(ah (Zs _)),Le.nil,Zl,Zt⟩) q ⟨Zp,Zf,Zf,Zf,Zt⟩ ⟨vf,vu,q,q⟩

theorem f44_55_c{mI:lN}{mH:lH}{mO:lO}{mE:Int}{mN:lI}{mS:lL}{mU:lI}{r1:aq}{k:Bool}{xn:Int}{vo:Nat}{vf:Nat}{vu:Nat}{r:aq×lA×Int}(h:f44_55 mI mH mO mE mN mS mU r1 k xn=some r):Ctr prog 44 [.pt 0 0, .d (.ag (R41 r1)), .d (D.b k), .fn (.func 55) [] [.d (.pc (E2 xn))]] (wM mI mH mO mE vo mN vu vf mS mU) (cO 4 (λr' new=>r'= .d (.tu [.ag (R41 r.1), .sl (List.map E58 r.2.1), .i .i64 r.2.2])∧new=(wM mI mH mO mE vo mN vu vf mS mU))):=by
 unfold f44_55 at h
 refine jq func44 kR q q q (λmm φφ ww hmm=>?_)
 refine Rcl 2 q (Bd q q (Zs _) q (Al z41 q (Al z50 q (Al z47 q (Rll 7 q ?_)))))
 obtain⟨y,w,h⟩:=ab h
 refine WL.wing [0,1,2,3] q q q q (f47_c w) Lw q dC (Re (Rg (Rf (Ro q)))) ⟨q,q,q,q,Zt⟩ Kv q (Zw q) q q (λr' new hS=>?_)
 obtain⟨rfl,rfl⟩:=hS
 refine⟨_,_,q,(Re (Rg (Rf (Ro q)))),q,Kv,?_⟩
 refine St q (Rlc 3 q (Ci h q (λh=>?_) λh=>?_))
 refine Rcl 2 q (Zq (aa p41 z41 q q) q (sS Z6 s41 Z2 (St q (sS Z6 s50 Z2 (sS Z6 s47 Z2 (Rlx 5 q ?_))))))
 obtain rfl:=Oi h
 exact ay (new:=(wM mI mH mO mE vo mN vu vf mS mU)) (r0:= .d (.tu [.ag (R41 (aq.mk (λj=>0) 0 0 0)), .sl (List.map E58 []), .i .i64 1])) (rs3 q (aO q q a41 s41 q) (dV q q a50 q) (dV q q a47 q)) (aK ⟨(ah (Zs _)),Le.nil,Zl,Zt⟩) q ⟨Zp,Zf,Zf,Zf,Zt⟩ ⟨q,q⟩
 refine Rcc 1 q (ao kR kR (Rq 4 q ?_))
 apply WQ.or 9 (t:=20) (d:=29)
 exact q
 intro A
 exact Rq 6 q (WQ.qy (ac E45 mI e23 q q Zl) q q q (Rq 2 q (WQ.nil ⟨[_,_,_,_,_,_,_,_,_],q,q,q⟩)))
 exact Rq 9 q (WQ.nil ⟨[_,_,_,_,_,_,_,_,_],q,q,q⟩)
 refine Rq 1 q ?_
 apply WQ.or 4 (t:=30) (d:=34)
 exact q
 intro B
 exact Rq 4 q (WQ.nil ⟨[_,_,_,_],q,q,q⟩)
 exact Rq 4 q (WQ.nil ⟨[_,_,_,_],q,q,q⟩)
 refine Rq 1 q ?_
 apply WQ.or 8 (t:=35) (d:=43)
 exact q
 intro C
 exact Rq 8 q (WQ.nil ⟨[_,_,_,_,_,_,_,_],q,q,q⟩)
 exact Rq 8 q (WQ.nil ⟨[_,_,_,_,_,_,_,_],q,q,q⟩)
 refine Rq 1 q ?_
 apply WQ.or 4 (t:=44) (d:=48)
 exact q
 intro E
 exact Rq 4 q (WQ.nil ⟨[_,_,_,_],q,q,q⟩)
 exact Rq 4 q (WQ.nil ⟨[_,_,_,_],q,q,q⟩)
 refine Rq 1 q ?_
 apply WQ.or 4 (t:=49) (d:=53)
 exact q
 intro F
 exact Rq 4 q (WQ.nil ⟨[_,_,_,_],q,q,q⟩)
 exact Rq 4 q (WQ.nil ⟨[_,_,_,_],q,q,q⟩)
 refine Rq 1 q ?_
 apply WQ.or 3 (t:=54) (d:=57)
 exact q
 intro G
 exact Rq 3 q (WQ.nil ⟨[_,_,_],q,q,q⟩)
 exact Rq 3 q (WQ.nil ⟨[_,_,_],q,q,q⟩)
 refine Rq 1 q (WQ.nil (Rxc 1 q (Ci h q (λh=>?_) λh=>?_)))
 refine Rcl 2 q (Zq (aa p41 z41 q q) q (sS Z6 s41 Z2 (St q (sS Z6 s50 Z2 (sS Z6 s47 Z2 (Rlx 5 q ?_))))))
 obtain rfl:=Oi h
 exact ay (new:=(wM mI mH mO mE vo mN vu vf mS mU)) (r0:= .d (.tu [.ag (R41 (aq.mk (λj=>0) 0 0 0)), .sl (List.map E58 []), .i .i64 2])) (rs3 q (aO q q a41 s41 q) (dV q q a50 q) (dV q q a47 q)) (aK ⟨(ah (Zs _)),Le.nil,Zl,Zt⟩) q ⟨Zp,Zf,Zf,Zf,Zt⟩ ⟨q,q⟩
 refine Rcc 4 q (kd (f:=80) (caps:=[.pt 4 0, .pt 5 0, .pt 6 0]) 1 q q q (Rl 1 q (WL.nil ⟨q,λmD φD wD vsD hlenD m=>?_⟩)))
 refine Rxl 5 q (Zq (aa wg vK q q) q (Bx q q q (Rlc 4 q (aF (WLP.pre 2 (Rl 2 q (WL.nil_cell 7 20 58 6 q q (WL.nil ?_))))))))
 obtain⟨x,p,h⟩:=ab h
 rcases x with a|g
 dsimp only[Rs.cs] at h
 refine WLP.wing [7,0,1,2,3,8] q q q q (f55_c p) Lw q dC (Re (Re (Rg (Rf (Ro (Ro q)))))) ⟨q,q,q,q,q,q,Zt⟩ Kv q (Zw q) q q (λr' new hS=>?_) (λc new hS=>?_)
 obtain⟨z9,i5_85,hz,rfl,rfl⟩:=hS
 obtain rfl:=Rs.ok.inj hz
 refine⟨_,_,q,(Re (Re (Rg (Rf (Ro (Ro q)))))),q,Kv,WLP.of ?_⟩
 refine St q (Zn (Rcc 1 q ?_))
 refine WC.freezeX [] [(7,20)] 8 _ q (al d7 _) Zt ⟨_,_,q,q,Zt⟩ ?_
 apply RT [_,_,_,_,_,_,_,_, .u, .u, .u] [8,9] [[.row 90 (mR mI mH mO mE 1 vo mN 3 vu),oS vo 2 vf mS,fS vf mS,uS vu mU, .row 41 (rg a.1 a.2.1 a.2.2.1 a.2.2.2.1), .row 50 [sN], .row 47 [.n 0], .row 116 (([.pt 0 0]:lV)++(aX 16 (λj=> .n (a.1 j))++([.n a.2.1, .n a.2.2.1, .n a.2.2.2.1, .l E58 a.2.2.2.2]:lV):lV)), .z],[.row 90 (mR mI mH mO mE 1 vo mN 3 vu),oS vo 2 vf mS,fS vf mS,uS vu mU, .row 41 (rg a.1 a.2.1 a.2.2.1 a.2.2.2.1), .row 50 [.l E58 a.2.2.2.2], .row 47 [.n 0], .row 116 (([.pt 0 0]:lV)++(aX 16 (λj=> .n (a.1 j))++([.n a.2.1, .n a.2.2.1, .n a.2.2.2.1, .l E58 a.2.2.2.2]:lV):lV)), .z]] [p01 11,p10 0,p10 1,p10 2,u01 11,u10 4,u10 5,u10 6,p11 3 8,q11 7 9 1,q01 10 2] kR kR q q
 refine Y4 ?_
 refine X2d ?_
 refine zo (λ_=>sS Z6 s41 Z2 (aJ q q)) ?_
 refine zo (λ_=>sS Z6 s50 Z2 (aJ q q)) ?_
 exact zo (λ_=>sS Z6 s47 Z2 (aJ q q)) Zt
 refine Rxx 2 q ?_
 obtain rfl:=Oi h
 exact ja (new:=(wM mI mH mO mE vo mN vu vf mS mU)) (r0:= .d (.tu [.ag (R41 (aq.mk a.1 a.2.1 a.2.2.1 a.2.2.2.1)), .sl (List.map E58 a.2.2.2.2), .i .i64 0])) m (lB) (rs3 q (aO q q a41 s41 q) (dV q q a50 q) (dV q q a47 q)) (aK ⟨(ah (Zs _)),Zl,Zl,Zt⟩) q ⟨Zp,Zf,Zf,Zf,Zt⟩ ⟨q,q⟩
 obtain⟨z9,hz,_⟩:=hS
 cases hz
 dsimp only[Rs.cs] at h
 refine WLP.wing [7,0,1,2,3,8] q q q q (f55_c p) Lw q dC (Re (Re (Rg (Rf (Ro (Ro q)))))) ⟨q,q,q,q,q,q,Zt⟩ Kv q (Zw q) q q (λr' new hS=>?_) (λc new hS=>?_)
 obtain⟨z9,i5_85,hz,_⟩:=hS
 cases hz
 obtain⟨z9,hz,rfl,rfl⟩:=hS
 obtain rfl:=Rs.bad.inj hz
 refine⟨_,(Re (Re (Rg (Rf (Ro (Re q)))))),Kv,?_⟩
 refine cJ (st':=[.row 90 (mR mI mH mO mE 1 vo mN 3 vu),oS vo 2 vf mS,fS vf mS,uS vu mU, .row 41 n19, .row 50 [sN], .row 47 [.n 0], .z, .z]) q (be ?_)
 obtain rfl:=Oi h
 exact jb (new:=(wM mI mH mO mE vo mN vu vf mS mU)) (r0:= .d (.tu [.ag (R41 (aq.mk (λj=>0) 0 0 0)), .sl (List.map E58 []), .i .i64 g])) m (ov [4,5,6] (lE (e:=g)) Lw q dC q ⟨q,q,q,Zt⟩ q q q q q (st':=[.row 90 (mR mI mH mO mE 1 vo mN 3 vu),oS vo 2 vf mS,fS vf mS,uS vu mU, .row 41 n19, .row 50 [sN], .row 47 [.n g], .z, .z]) q) q (rs3 q (aO q q a41 s41 q) (dV q q a50 q) (dV q q a47 q)) (aK ⟨(ah (Zs _)),Le.nil,Zl,Zt⟩) q ⟨Zp,Zf,Zf,Zf,Zt⟩ ⟨q,q⟩

theorem f44_58_c{mI:lN}{mH:lH}{mO:lO}{mE:Int}{mN:lI}{mS:lL}{mU:lI}{r1:aq}{k:Bool}{xn:Int}{vo:Nat}{vf:Nat}{vu:Nat}{r:aq×lA×Int}(h:f44_58 mI mH mO mE mN mS mU r1 k xn=some r):Ctr prog 44 [.pt 0 0, .d (.ag (R41 r1)), .d (D.b k), .fn (.func 58) [] [.d (.pc (E2 xn))]] (wM mI mH mO mE vo mN vu vf mS mU) (cO 4 (λr' new=>r'= .d (.tu [.ag (R41 r.1), .sl (List.map E58 r.2.1), .i .i64 r.2.2])∧new=(wM mI mH mO mE vo mN vu vf mS mU))):=by
 unfold f44_58 at h
 refine jq func44 kR q q q (λmm φφ ww hmm=>?_)
 refine Rcl 2 q (Bd q q (Zs _) q (Al z41 q (Al z50 q (Al z47 q (Rll 7 q ?_)))))
 obtain⟨y,w,h⟩:=ab h
 refine WL.wing [0,1,2,3] q q q q (f47_c w) Lw q dC (Re (Rg (Rf (Ro q)))) ⟨q,q,q,q,Zt⟩ Kv q (Zw q) q q (λr' new hS=>?_)
 obtain⟨rfl,rfl⟩:=hS
 refine⟨_,_,q,(Re (Rg (Rf (Ro q)))),q,Kv,?_⟩
 refine St q (Rlc 3 q (Ci h q (λh=>?_) λh=>?_))
 refine Rcl 2 q (Zq (aa p41 z41 q q) q (sS Z6 s41 Z2 (St q (sS Z6 s50 Z2 (sS Z6 s47 Z2 (Rlx 5 q ?_))))))
 obtain rfl:=Oi h
 exact ay (new:=(wM mI mH mO mE vo mN vu vf mS mU)) (r0:= .d (.tu [.ag (R41 (aq.mk (λj=>0) 0 0 0)), .sl (List.map E58 []), .i .i64 1])) (rs3 q (aO q q a41 s41 q) (dV q q a50 q) (dV q q a47 q)) (aK ⟨(ah (Zs _)),Le.nil,Zl,Zt⟩) q ⟨Zp,Zf,Zf,Zf,Zt⟩ ⟨q,q⟩
 refine Rcc 1 q (ao kR kR (Rq 4 q ?_))
 apply WQ.or 9 (t:=20) (d:=29)
 exact q
 intro A
 exact Rq 6 q (WQ.qy (ac E45 mI e23 q q Zl) q q q (Rq 2 q (WQ.nil ⟨[_,_,_,_,_,_,_,_,_],q,q,q⟩)))
 exact Rq 9 q (WQ.nil ⟨[_,_,_,_,_,_,_,_,_],q,q,q⟩)
 refine Rq 1 q ?_
 apply WQ.or 4 (t:=30) (d:=34)
 exact q
 intro B
 exact Rq 4 q (WQ.nil ⟨[_,_,_,_],q,q,q⟩)
 exact Rq 4 q (WQ.nil ⟨[_,_,_,_],q,q,q⟩)
 refine Rq 1 q ?_
 apply WQ.or 8 (t:=35) (d:=43)
 exact q
 intro C
 exact Rq 8 q (WQ.nil ⟨[_,_,_,_,_,_,_,_],q,q,q⟩)
 exact Rq 8 q (WQ.nil ⟨[_,_,_,_,_,_,_,_],q,q,q⟩)
 refine Rq 1 q ?_
 apply WQ.or 4 (t:=44) (d:=48)
 exact q
 intro E
 exact Rq 4 q (WQ.nil ⟨[_,_,_,_],q,q,q⟩)
 exact Rq 4 q (WQ.nil ⟨[_,_,_,_],q,q,q⟩)
 refine Rq 1 q ?_
 apply WQ.or 4 (t:=49) (d:=53)
 exact q
 intro F
 exact Rq 4 q (WQ.nil ⟨[_,_,_,_],q,q,q⟩)
 exact Rq 4 q (WQ.nil ⟨[_,_,_,_],q,q,q⟩)
 refine Rq 1 q ?_
 apply WQ.or 3 (t:=54) (d:=57)
 exact q
 intro G
 exact Rq 3 q (WQ.nil ⟨[_,_,_],q,q,q⟩)
 exact Rq 3 q (WQ.nil ⟨[_,_,_],q,q,q⟩)
 refine Rq 1 q (WQ.nil (Rxc 1 q (Ci h q (λh=>?_) λh=>?_)))
 refine Rcl 2 q (Zq (aa p41 z41 q q) q (sS Z6 s41 Z2 (St q (sS Z6 s50 Z2 (sS Z6 s47 Z2 (Rlx 5 q ?_))))))
 obtain rfl:=Oi h
 exact ay (new:=(wM mI mH mO mE vo mN vu vf mS mU)) (r0:= .d (.tu [.ag (R41 (aq.mk (λj=>0) 0 0 0)), .sl (List.map E58 []), .i .i64 2])) (rs3 q (aO q q a41 s41 q) (dV q q a50 q) (dV q q a47 q)) (aK ⟨(ah (Zs _)),Le.nil,Zl,Zt⟩) q ⟨Zp,Zf,Zf,Zf,Zt⟩ ⟨q,q⟩
 refine Rcc 4 q (kd (f:=80) (caps:=[.pt 4 0, .pt 5 0, .pt 6 0]) 1 q q q (Rl 1 q (WL.nil ⟨q,λmD φD wD vsD hlenD m=>?_⟩)))
 refine Rxl 5 q (Zq (aa wg vK q q) q (Bx q q q (Rlc 4 q (aF (WLP.pre 2 (Rl 2 q (WL.nil_cell 7 20 58 6 q q (WL.nil ?_))))))))
 obtain⟨x,p,h⟩:=ab h
 rcases x with a|g
 dsimp only[Rs.cs] at h
 refine WLP.wing [7,0,1,2,3,8] q q q q (f58_c p) Lw q dC (Re (Re (Rg (Rf (Ro (Ro q)))))) ⟨q,q,q,q,q,q,Zt⟩ Kv q (Zw q) q q (λr' new hS=>?_) (λc new hS=>?_)
 obtain⟨z9,hz,rfl,rfl⟩:=hS
 obtain rfl:=Rs.ok.inj hz
 refine⟨_,_,q,(Re (Re (Rg (Rf (Ro (Ro q)))))),q,Kv,WLP.of ?_⟩
 refine St q (Zn (Rcc 1 q ?_))
 refine WC.freezeX [] [(7,20)] 8 _ q (al d7 _) Zt ⟨_,_,q,q,Zt⟩ ?_
 apply RT [_,_,_,_,_,_,_,_, .u, .u, .u] [8,9] [[.row 90 (mR mI mH mO mE 1 vo mN 3 vu),oS vo 2 vf mS,fS vf mS,uS vu mU, .row 41 (rg a.1 a.2.1 a.2.2.1 a.2.2.2), .row 50 [sN], .row 47 [.n 0], .row 116 (([.pt 0 0]:lV)++(aX 16 (λj=> .n (a.1 j))++([.n a.2.1, .n a.2.2.1, .n a.2.2.2, .l E58 ([]:lA)]:lV):lV)), .z],[.row 90 (mR mI mH mO mE 1 vo mN 3 vu),oS vo 2 vf mS,fS vf mS,uS vu mU, .row 41 (rg a.1 a.2.1 a.2.2.1 a.2.2.2), .row 50 [.l E58 ([]:lA)], .row 47 [.n 0], .row 116 (([.pt 0 0]:lV)++(aX 16 (λj=> .n (a.1 j))++([.n a.2.1, .n a.2.2.1, .n a.2.2.2, .l E58 ([]:lA)]:lV):lV)), .z]] [p01 11,p10 0,p10 1,p10 2,u01 11,u10 4,u10 5,u10 6,p11 3 8,q11 7 9 1,q01 10 2] kR kR q q
 refine Y4 ?_
 refine X2d ?_
 refine zo (λ_=>sS Z6 s41 Z2 (aJ q q)) ?_
 refine zo (λ_=>sS Z6 s50 Z2 (aJ q q)) ?_
 exact zo (λ_=>sS Z6 s47 Z2 (aJ q q)) Zt
 refine Rxx 2 q ?_
 obtain rfl:=Oi h
 exact ja (new:=(wM mI mH mO mE vo mN vu vf mS mU)) (r0:= .d (.tu [.ag (R41 (aq.mk a.1 a.2.1 a.2.2.1 a.2.2.2)), .sl (List.map E58 ([]:lA)), .i .i64 0])) m (lB) (rs3 q (aO q q a41 s41 q) (dV q q a50 q) (dV q q a47 q)) (aK ⟨(ah (Zs _)),Zl,Zl,Zt⟩) q ⟨Zp,Zf,Zf,Zf,Zt⟩ ⟨q,q⟩
 obtain⟨z9,hz,_⟩:=hS
 cases hz
 dsimp only[Rs.cs] at h
 refine WLP.wing [7,0,1,2,3,8] q q q q (f58_c p) Lw q dC (Re (Re (Rg (Rf (Ro (Ro q)))))) ⟨q,q,q,q,q,q,Zt⟩ Kv q (Zw q) q q (λr' new hS=>?_) (λc new hS=>?_)
 obtain⟨z9,hz,_⟩:=hS
 cases hz
 obtain⟨z9,hz,rfl,rfl⟩:=hS
 obtain rfl:=Rs.bad.inj hz
 refine⟨_,(Re (Re (Rg (Rf (Ro (Re q)))))),Kv,?_⟩
 refine cJ (st':=[.row 90 (mR mI mH mO mE 1 vo mN 3 vu),oS vo 2 vf mS,fS vf mS,uS vu mU, .row 41 n19, .row 50 [sN], .row 47 [.n 0], .z, .z]) q (be ?_)
 obtain rfl:=Oi h
 exact jb (new:=(wM mI mH mO mE vo mN vu vf mS mU)) (r0:= .d (.tu [.ag (R41 (aq.mk (λj=>0) 0 0 0)), .sl (List.map E58 []), .i .i64 g])) m (ov [4,5,6] (lE (e:=g)) Lw q dC q ⟨q,q,q,Zt⟩ q q q q q (st':=[.row 90 (mR mI mH mO mE 1 vo mN 3 vu),oS vo 2 vf mS,fS vf mS,uS vu mU, .row 41 n19, .row 50 [sN], .row 47 [.n g], .z, .z]) q) q (rs3 q (aO q q a41 s41 q) (dV q q a50 q) (dV q q a47 q)) (aK ⟨(ah (Zs _)),Le.nil,Zl,Zt⟩) q ⟨Zp,Zf,Zf,Zf,Zt⟩ ⟨q,q⟩

theorem f11_c{mI:lN}{mH:lH}{mO:lO}{mE:Int}{mN:lI}{mS:lL}{mU:lI}{r1:aq}{vo:Nat}{vf:Nat}{vu:Nat}{r:aq×lA×Int×lI×lL×lI}(h:f11 mI mH mO mE mN mS mU r1=some r):Ctr prog 11 [.pt 0 0, .d (.ag (R41 r1))] (wM mI mH mO mE vo mN vu vf mS mU) (cO 4 (λr' new=>∃i2 i3:Nat,r'= .d (.tu [.ag (R41 r.1), .sl (List.map E58 r.2.1), .i .i64 r.2.2.1])∧new=[.row 90 (mR mI mH mO mE 1 vo r.2.2.2.1 3 i3), .os 42 1 vo (bt 2 i2 (List.length r.2.2.2.2.1)), .fam 2 1 i2 (bi E2 r.2.2.2.2.1), .os 2 1 i3 (eM E2 r.2.2.2.2.2)])):=by
 unfold f11 at h
 refine cI func11 λ_ _ _ hmm=>?_
 refine Rcl 2 q (Bd q q (Zs _) q (Al z41 q (Rll 8 q ?_)))
 obtain⟨a,c,h⟩:=ab h
 refine WL.wing [0,1,2,3] q q q q (f44_45_c c) Lw q dC (Re (Rg (Rf (Ro q)))) ⟨q,q,q,q,Zt⟩ Kv q (Zw q) q q (λr' new hS=>?_)
 obtain⟨i2_17,i3_17,rfl,rfl⟩:=hS
 refine⟨_,_,q,(Re (Rg (Rf (Ro q)))),q,Kv,?_⟩
 refine St q (Rl 3 q (sS Z6 s41 Z2 (St q (Rlx 5 q ?_))))
 obtain rfl:=Oi h
 exact ay (new:=[.row 90 (mR mI mH mO mE 1 vo a.2.2.2.1 3 i3_17), .os 42 1 vo (bt 2 i2_17 (List.length a.2.2.2.2.1)), .fam 2 1 i2_17 (bi E2 a.2.2.2.2.1), .os 2 1 i3_17 (eM E2 a.2.2.2.2.2)]) (r0:= .d (.tu [.ag (R41 a.1), .sl (List.map E58 a.2.1), .i .i64 a.2.2.1])) (rs3 q (aO q q a41 s41 q) (ap q) (ap q)) (aK ⟨(ah (Zs _)),Zl,Zl,Zt⟩) q ⟨Zp,Zf,Zf,Zf,Zt⟩ ⟨i2_17,i3_17,q,q⟩

theorem f20_c{mI:lN}{mH:lH}{mO:lO}{mE:Int}{mN:lI}{mS:lL}{mU:lI}{r1:aq}{n2:Int}{vo:Nat}{vf:Nat}{vu:Nat}{r:aq×lA×Int}(h:f20 mI mH mO mE mN mS mU r1 n2=some r):Ctr prog 20 [.pt 0 0, .d (.ag (R41 r1)), .n n2] (wM mI mH mO mE vo mN vu vf mS mU) (cO 4 (λr' new=>r'= .d (.tu [.ag (R41 r.1), .sl (List.map E58 r.2.1), .i .i64 r.2.2])∧new=(wM mI mH mO mE vo mN vu vf mS mU))):=by
 unfold f20 at h
 refine cI func20 λ_ _ _ hmm=>?_
 refine Rcl 2 q (Bd q q (Zs _) q (WL.s ((jt q q (by exact(show Les [.n n2] (List.map AV.d [.i .i64 n2]) from Lw))).does) (Zw q) q q (Al z41 q (Rlc 4 q (Jn6 (λe f _ _ _ _=> [(6, .pt 4 0),(7, .l E58 e),(8, .n f)]) (λ_ _ g j k m=> [.row 90 (mR mI mH mO mE 1 vo mN 3 vu),oS vo 2 vf mS,fS vf mS,uS vu mU, .row 41 (rg g j k m)]) h (λ_ h=>?_) λe f g j k m h=>?_)))))
 rcases dn (decide (n2≥1)) with a|a
 replace h:=dv h a
 obtain⟨t,p,h⟩:=ab h
 rcases dn (!t) with c|c
 replace h:=dv h c
 obtain⟨w,x,h⟩:=ab h
 apply RT [_,_,_,_,_,_,_,_,_,_,_,_,_,_,_,_,_,_,_,_,_,_, .u,_,_] [22] [[.row 90 (mR mI mH mO mE 1 vo mN 3 vu),oS vo 2 vf mS,fS vf mS,uS vu mU, .row 41 (rG w.1)]] [p01 0,p01 4,p01 5,p10 2,p10 3,p11 4 0,p20 5 4,p20 6 4,p20 4 7,p10 8,p11 9 5,p11 9 0,p20 11 9,p20 12 9,p20 13 9,p30 10 14 9,p20 9 15,p01 5,([0,1,16,17],[],[0]),p10 18,p10 18,p10 18,p11 19 6,q10 20 1,q10 21 1] kR kR q q
 refine Y4 ?_
 refine zo (rc a) ?_
 refine Y1 ?_
 refine zo (λ_=>?_) ?_
 refine WL.wing [0,1,2,3] q q q q (f47_c p) Lw q dC (Re (Rg (Rf (Ro q)))) ⟨q,q,q,q,Zt⟩ Kv q (aU q q q) q q (λr' new hS=>?_)
 obtain⟨rfl,rfl⟩:=hS
 refine⟨_,_,q,(Re (Rg (Rf (Ro q)))),q,Kv,?_⟩
 exact Zd q q q
 refine Y2 ?_
 refine zo (rc c) ?_
 refine Y8 ?_
 refine zo (λ_=>?_) ?_
 refine WL.wing [0,1,2,3] q q q q (f44_55_c x) Lw q dC (Re (Rg (Rf (Ro q)))) ⟨q,q,q,q,Zt⟩ Kv q (Zw q) q q (λr' new hS=>?_)
 obtain⟨rfl,rfl⟩:=hS
 refine⟨_,_,q,(Re (Rg (Rf (Ro q)))),q,Kv,?_⟩
 exact Zd q q q
 refine Y3 ?_
 refine zo (λ_=>sS Z6 s41 Z2 (aJ q q)) ?_
 exact Y2 Zt
 exact En6 h
 replace h:=dw h c
 obtain⟨y,A,h⟩:=ab h
 apply RT [_,_,_,_,_,_,_,_,_,_,_,_,_,_,_,_,_,_,_,_,_,_, .u,_,_] [22] [[.row 90 (mR mI mH mO mE 1 vo mN 3 vu),oS vo 2 vf mS,fS vf mS,uS vu mU, .row 41 (rG y.1)]] [p01 0,p01 4,p01 5,p10 2,p10 3,p11 4 0,p20 5 4,p20 6 4,p20 4 7,p10 8,p10 9,p10 9,p10 9,p10 9,p10 9,p10 9,p20 9 15,p01 5,([0,1,16,17],[],[0]),p10 18,p10 18,p10 18,p11 19 6,q10 20 1,q10 21 1] kR kR q q
 refine Y4 ?_
 refine zo (rc a) ?_
 refine Y1 ?_
 refine zo (λ_=>?_) ?_
 refine WL.wing [0,1,2,3] q q q q (f47_c p) Lw q dC (Re (Rg (Rf (Ro q)))) ⟨q,q,q,q,Zt⟩ Kv q (aU q q q) q q (λr' new hS=>?_)
 obtain⟨rfl,rfl⟩:=hS
 refine⟨_,_,q,(Re (Rg (Rf (Ro q)))),q,Kv,?_⟩
 exact Zd q q q
 refine Y2 ?_
 refine zo (rc c) ?_
 refine Y8 ?_
 refine zo (λ_=>?_) ?_
 refine WL.wing [0,1,2,3] q q q q (f44_55_c A) Lw q dC (Re (Rg (Rf (Ro q)))) ⟨q,q,q,q,Zt⟩ Kv q (Zw q) q q (λr' new hS=>?_)
 obtain⟨rfl,rfl⟩:=hS
 refine⟨_,_,q,(Re (Rg (Rf (Ro q)))),q,Kv,?_⟩
 exact Zd q q q
 refine Y3 ?_
 refine zo (λ_=>sS Z6 s41 Z2 (aJ q q)) ?_
 exact Y2 Zt
 exact En6 h
 replace h:=dw h a
 obtain⟨B,C,h⟩:=ab h
 apply RT [_,_,_,_,_,_,_,_,_,_,_,_,_,_,_,_,_,_,_,_,_,_, .u,_,_] [22] [[.row 90 (mR mI mH mO mE 1 vo mN 3 vu),oS vo 2 vf mS,fS vf mS,uS vu mU, .row 41 (rG B.1)]] [p01 0,p01 4,p01 5,p10 2,p10 3,p10 4,p10 4,p10 4,p20 4 7,p10 8,p10 9,p10 9,p10 9,p10 9,p10 9,p10 9,p20 9 15,p01 5,([0,1,16,17],[],[0]),p10 18,p10 18,p10 18,p11 19 6,q10 20 1,q10 21 1] kR kR q q
 refine Y4 ?_
 refine zo (rc a) ?_
 refine Y9 ?_
 refine Y4 ?_
 refine zo (λ_=>?_) ?_
 refine WL.wing [0,1,2,3] q q q q (f44_55_c C) Lw q dC (Re (Rg (Rf (Ro q)))) ⟨q,q,q,q,Zt⟩ Kv q (Zw q) q q (λr' new hS=>?_)
 obtain⟨rfl,rfl⟩:=hS
 refine⟨_,_,q,(Re (Rg (Rf (Ro q)))),q,Kv,?_⟩
 exact Zd q q q
 refine Y3 ?_
 refine zo (λ_=>sS Z6 s41 Z2 (aJ q q)) ?_
 exact Y2 Zt
 exact En6 h
 refine Rcx 1 q ?_
 obtain rfl:=Oi h
 exact ay (new:=(wM mI mH mO mE vo mN vu vf mS mU)) (r0:= .d (.tu [.ag (R41 (aq.mk g j k m)), .sl (List.map E58 e), .i .i64 f])) (rs3 q (aO q q a41 s41 q) (ap q) (ap q)) (aK ⟨(ah (Zs _)),Zl,Zl,Zt⟩) q ⟨Zp,Zf,Zf,Zf,Zt⟩ ⟨q,q⟩

theorem f22_c{mI:lN}{mH:lH}{mO:lO}{mE:Int}{mN:lI}{mS:lL}{mU:lI}{r1:aq}{c2:Int}{vo:Nat}{vf:Nat}{vu:Nat}{r:aq×Int}(h:f22 mI mH mO mE mN mS mU r1 c2=some r):Ctr prog 22 [.pt 0 0, .d (.ag (R41 r1)), .n c2] (wM mI mH mO mE vo mN vu vf mS mU) (cO 4 (λr' new=>r'= .d (.tu [.ag (R41 r.1), .i .i64 r.2])∧new=(wM mI mH mO mE vo mN vu vf mS mU))):=by
 unfold f22 at h
 refine cI func22 λ_ _ _ hmm=>?_
 refine Rcl 2 q (Bd q q (Zs _) q (WL.s ((jt q q (by exact(show Les [.n c2] (List.map AV.d [.i .i64 c2]) from Lw))).does) (Zw q) q q (Al z41 q (Rlc 3 q (Jn5 (λg _ _ _ _=> [(6, .pt 4 0),(8, .pt 5 0),(10, .n g)]) (λ_ j k m p=> [.row 90 (mR mI mH mO mE 1 vo mN 3 vu),oS vo 2 vf mS,fS vf mS,uS vu mU, .row 41 n19, .row 41 (rg j k m p)]) h (λ_ h=>?_) λg j k m p h=>?_)))))
 rcases dn (decide (c2≥(-2))) with a|a
 replace h:=dv h a
 rcases dn (!decide (c2=0)) with c|c
 replace h:=dv h c
 obtain⟨A,f,h⟩:=ab h
 rcases dn (!A) with e|e
 replace h:=dv h e
 obtain⟨B,t,h⟩:=ab h
 apply RT [_,_,_,_,_,_,_,_,_,_,_,_,_,_,_,_,_,_,_,_,_,_,_,_,_,_,_,_, .u,_,_] [27,28] [[.row 90 (mR mI mH mO mE 1 vo mN 3 vu),oS vo 2 vf mS,fS vf mS,uS vu mU, .row 41 n19, .row 41 n19],[.row 90 (mR mI mH mO mE 1 vo mN 3 vu),oS vo 2 vf mS,fS vf mS,uS vu mU, .row 41 n19, .row 41 (rG B.1)]] [u01 0,u01 4,u01 5,u10 2,u10 3,u11 4 5,u20 5 4,u20 4 6,u10 7,u11 8 0,u20 9 8,u20 10 8,u20 8 11,u10 12,u11 13 5,u11 13 0,u20 15 13,u20 16 13,u20 17 13,([14,18,13],[],[0,1]),u20 13 19,u01 5,([0,1,20,21],[],[0,1]),u10 22,u10 23,([23],[],[0,1,2]),([23],[],[0,1,2]),p00,q20 27 24 1,q10 25 2,q10 26 2] kR kR q q
 refine X2d ?_
 refine⟨⟨λ_=>Rl 1 q (WL.cast 16 q (dh (Cb a)) (cf q q q)),λ_=>Rl 1 q (WL.cast 16 q (dh (Cb a)) (cf q q q)),Zt⟩,?_⟩
 refine X2c ?_
 refine⟨⟨λ_=>Rl 1 q (WL.cast 20 q (dh (Cb c)) (cf q q q)),λ_=>Rl 1 q (WL.cast 20 q (dh (Cb c)) (cf q q q)),Zt⟩,?_⟩
 refine X2a ?_
 refine zp (λ_=>?_) (λ_=>?_) ?_
 refine WL.wing [0,1,2,3] q q q q (f47_c f) Lw q dC (Re (Rg (Rf (Ro q)))) ⟨q,q,q,q,Zt⟩ Kv q (aU q q q) q q (λr' new hS=>?_)
 obtain⟨rfl,rfl⟩:=hS
 refine⟨_,_,q,(Re (Rg (Rf (Ro q)))),q,Kv,?_⟩
 exact Zd q q q
 refine WL.wing [0,1,2,3] q q q q (f47_c f) Lw q dC (Re (Rg (Rf (Ro q)))) ⟨q,q,q,q,Zt⟩ Kv q (aU q q q) q q (λr' new hS=>?_)
 obtain⟨rfl,rfl⟩:=hS
 refine⟨_,_,q,(Re (Rg (Rf (Ro q)))),q,Kv,?_⟩
 exact Zd q q q
 refine X2b ?_
 refine⟨⟨λ_=>Rl 1 q (WL.cast 25 q (dh (Cb e)) (cf q q q)),λ_=>Rl 1 q (WL.cast 25 q (dh (Cb e)) (cf q q q)),Zt⟩,?_⟩
 refine X2d ?_
 refine X2d ?_
 refine zp (λ_=>?_) (λ_=>?_) ?_
 refine WL.wing [0,1,2,3] q q q q (f44_58_c t) Lw q dC (Re (Rg (Rf (Ro q)))) ⟨q,q,q,q,Zt⟩ Kv q (Zw q) q q (λr' new hS=>?_)
 obtain⟨rfl,rfl⟩:=hS
 refine⟨_,_,q,(Re (Rg (Rf (Ro q)))),q,Kv,?_⟩
 exact Zd q q q
 refine WL.wing [0,1,2,3] q q q q (f44_58_c t) Lw q dC (Re (Rg (Rf (Ro q)))) ⟨q,q,q,q,Zt⟩ Kv q (Zw q) q q (λr' new hS=>?_)
 obtain⟨rfl,rfl⟩:=hS
 refine⟨_,_,q,(Re (Rg (Rf (Ro q)))),q,Kv,?_⟩
 exact Zd q q q
 refine X2b ?_
 refine X3b ?_
 refine zo (λ_=>Al z41 q (Zd q q q)) ?_
 refine zo (λ_=>sS Z6 s41 Z2 (aJ q q)) ?_
 exact Y2 Zt
 exact En5 h
 replace h:=dw h e
 obtain⟨C,w,h⟩:=ab h
 apply RT [_,_,_,_,_,_,_,_,_,_,_,_,_,_,_,_,_,_,_,_,_,_,_,_,_,_,_,_, .u,_,_] [27,28] [[.row 90 (mR mI mH mO mE 1 vo mN 3 vu),oS vo 2 vf mS,fS vf mS,uS vu mU, .row 41 n19, .row 41 n19],[.row 90 (mR mI mH mO mE 1 vo mN 3 vu),oS vo 2 vf mS,fS vf mS,uS vu mU, .row 41 n19, .row 41 (rG C.1)]] [u01 0,u01 4,u01 5,u10 2,u10 3,u11 4 5,u20 5 4,u20 4 6,u10 7,u11 8 0,u20 9 8,u20 10 8,u20 8 11,u10 12,u10 13,u10 13,u10 13,u10 13,u10 13,u10 13,u20 13 19,u01 5,([0,1,20,21],[],[0,1]),u10 22,u10 23,([23],[],[0,1,2]),([23],[],[0,1,2]),p00,q20 27 24 1,q10 25 2,q10 26 2] kR kR q q
 refine X2d ?_
 refine⟨⟨λ_=>Rl 1 q (WL.cast 16 q (dh (Cb a)) (cf q q q)),λ_=>Rl 1 q (WL.cast 16 q (dh (Cb a)) (cf q q q)),Zt⟩,?_⟩
 refine X2c ?_
 refine⟨⟨λ_=>Rl 1 q (WL.cast 20 q (dh (Cb c)) (cf q q q)),λ_=>Rl 1 q (WL.cast 20 q (dh (Cb c)) (cf q q q)),Zt⟩,?_⟩
 refine X2a ?_
 refine zp (λ_=>?_) (λ_=>?_) ?_
 refine WL.wing [0,1,2,3] q q q q (f47_c f) Lw q dC (Re (Rg (Rf (Ro q)))) ⟨q,q,q,q,Zt⟩ Kv q (aU q q q) q q (λr' new hS=>?_)
 obtain⟨rfl,rfl⟩:=hS
 refine⟨_,_,q,(Re (Rg (Rf (Ro q)))),q,Kv,?_⟩
 exact Zd q q q
 refine WL.wing [0,1,2,3] q q q q (f47_c f) Lw q dC (Re (Rg (Rf (Ro q)))) ⟨q,q,q,q,Zt⟩ Kv q (aU q q q) q q (λr' new hS=>?_)
 obtain⟨rfl,rfl⟩:=hS
 refine⟨_,_,q,(Re (Rg (Rf (Ro q)))),q,Kv,?_⟩
 exact Zd q q q
 refine X2b ?_
 refine⟨⟨λ_=>Rl 1 q (WL.cast 25 q (dh (Cb e)) (cf q q q)),λ_=>Rl 1 q (WL.cast 25 q (dh (Cb e)) (cf q q q)),Zt⟩,?_⟩
 refine X2d ?_
 refine X2d ?_
 refine zp (λ_=>?_) (λ_=>?_) ?_
 refine WL.wing [0,1,2,3] q q q q (f44_58_c w) Lw q dC (Re (Rg (Rf (Ro q)))) ⟨q,q,q,q,Zt⟩ Kv q (Zw q) q q (λr' new hS=>?_)
 obtain⟨rfl,rfl⟩:=hS
 refine⟨_,_,q,(Re (Rg (Rf (Ro q)))),q,Kv,?_⟩
 exact Zd q q q
 refine WL.wing [0,1,2,3] q q q q (f44_58_c w) Lw q dC (Re (Rg (Rf (Ro q)))) ⟨q,q,q,q,Zt⟩ Kv q (Zw q) q q (λr' new hS=>?_)
 obtain⟨rfl,rfl⟩:=hS
 refine⟨_,_,q,(Re (Rg (Rf (Ro q)))),q,Kv,?_⟩
 exact Zd q q q
 refine X2b ?_
 refine X3b ?_
 refine zo (λ_=>Al z41 q (Zd q q q)) ?_
 refine zo (λ_=>sS Z6 s41 Z2 (aJ q q)) ?_
 exact Y2 Zt
 exact En5 h
 replace h:=dw h c
 obtain⟨E,x,h⟩:=ab h
 apply RT [_,_,_,_,_,_,_,_,_,_,_,_,_,_,_,_,_,_,_,_,_,_,_,_,_,_,_,_, .u,_,_] [27,28] [[.row 90 (mR mI mH mO mE 1 vo mN 3 vu),oS vo 2 vf mS,fS vf mS,uS vu mU, .row 41 n19, .row 41 n19],[.row 90 (mR mI mH mO mE 1 vo mN 3 vu),oS vo 2 vf mS,fS vf mS,uS vu mU, .row 41 n19, .row 41 (rG E.1)]] [u01 0,u01 4,u01 5,u10 2,u10 3,u11 4 5,u20 5 4,u20 4 6,u10 7,u10 8,u10 8,u10 8,u20 8 11,u10 12,u10 13,u10 13,u10 13,u10 13,u10 13,u10 13,u20 13 19,u01 5,([0,1,20,21],[],[0,1]),u10 22,u10 23,([23],[],[0,1,2]),([23],[],[0,1,2]),p00,q20 27 24 1,q10 25 2,q10 26 2] kR kR q q
 refine X2d ?_
 refine⟨⟨λ_=>Rl 1 q (WL.cast 16 q (dh (Cb a)) (cf q q q)),λ_=>Rl 1 q (WL.cast 16 q (dh (Cb a)) (cf q q q)),Zt⟩,?_⟩
 refine X2c ?_
 refine⟨⟨λ_=>Rl 1 q (WL.cast 20 q (dh (Cb c)) (cf q q q)),λ_=>Rl 1 q (WL.cast 20 q (dh (Cb c)) (cf q q q)),Zt⟩,?_⟩
 refine X2d ?_
 refine X2d ?_
 refine X2d ?_
 refine X2a ?_
 refine zp (λ_=>?_) (λ_=>?_) ?_
 refine WL.wing [0,1,2,3] q q q q (f44_58_c x) Lw q dC (Re (Rg (Rf (Ro q)))) ⟨q,q,q,q,Zt⟩ Kv q (Zw q) q q (λr' new hS=>?_)
 obtain⟨rfl,rfl⟩:=hS
 refine⟨_,_,q,(Re (Rg (Rf (Ro q)))),q,Kv,?_⟩
 exact Zd q q q
 refine WL.wing [0,1,2,3] q q q q (f44_58_c x) Lw q dC (Re (Rg (Rf (Ro q)))) ⟨q,q,q,q,Zt⟩ Kv q (Zw q) q q (λr' new hS=>?_)
 obtain⟨rfl,rfl⟩:=hS
 refine⟨_,_,q,(Re (Rg (Rf (Ro q)))),q,Kv,?_⟩
 exact Zd q q q
 refine X2b ?_
 refine X3b ?_
 refine zo (λ_=>Al z41 q (Zd q q q)) ?_
 refine zo (λ_=>sS Z6 s41 Z2 (aJ q q)) ?_
 exact Y2 Zt
 exact En5 h
 replace h:=dw h a
 obtain⟨F,y,h⟩:=ab h
 apply RT [_,_,_,_,_,_,_,_,_,_,_,_,_,_,_,_,_,_,_,_,_,_,_,_,_,_,_,_, .u,_,_] [27,28] [[.row 90 (mR mI mH mO mE 1 vo mN 3 vu),oS vo 2 vf mS,fS vf mS,uS vu mU, .row 41 n19, .row 41 n19],[.row 90 (mR mI mH mO mE 1 vo mN 3 vu),oS vo 2 vf mS,fS vf mS,uS vu mU, .row 41 n19, .row 41 (rG F.1)]] [u01 0,u01 4,u01 5,u10 2,u10 3,u10 4,u10 4,u20 4 6,u10 7,u10 8,u10 8,u10 8,u20 8 11,u10 12,u10 13,u10 13,u10 13,u10 13,u10 13,u10 13,u20 13 19,u01 5,([0,1,20,21],[],[0,1]),u10 22,u10 23,([23],[],[0,1,2]),([23],[],[0,1,2]),p00,q20 27 24 1,q10 25 2,q10 26 2] kR kR q q
 refine X2d ?_
 refine⟨⟨λ_=>Rl 1 q (WL.cast 16 q (dh (Cb a)) (cf q q q)),λ_=>Rl 1 q (WL.cast 16 q (dh (Cb a)) (cf q q q)),Zt⟩,?_⟩
 refine X2d ?_
 refine X2d ?_
 refine X2d ?_
 refine X2d ?_
 refine X2a ?_
 refine zp (λ_=>?_) (λ_=>?_) ?_
 refine WL.wing [0,1,2,3] q q q q (f44_58_c y) Lw q dC (Re (Rg (Rf (Ro q)))) ⟨q,q,q,q,Zt⟩ Kv q (Zw q) q q (λr' new hS=>?_)
 obtain⟨rfl,rfl⟩:=hS
 refine⟨_,_,q,(Re (Rg (Rf (Ro q)))),q,Kv,?_⟩
 exact Zd q q q
 refine WL.wing [0,1,2,3] q q q q (f44_58_c y) Lw q dC (Re (Rg (Rf (Ro q)))) ⟨q,q,q,q,Zt⟩ Kv q (Zw q) q q (λr' new hS=>?_)
 obtain⟨rfl,rfl⟩:=hS
 refine⟨_,_,q,(Re (Rg (Rf (Ro q)))),q,Kv,?_⟩
 exact Zd q q q
 refine X2b ?_
 refine X3b ?_
 refine zo (λ_=>Al z41 q (Zd q q q)) ?_
 refine zo (λ_=>sS Z6 s41 Z2 (aJ q q)) ?_
 exact Y2 Zt
 exact En5 h
 refine Rcl 4 q (sS Z6 s41 Z2 (St q (Rlx 4 q ?_)))
 obtain rfl:=Oi h
 exact ay (new:=(wM mI mH mO mE vo mN vu vf mS mU)) (r0:= .d (.tu [.ag (R41 (aq.mk j k m p)), .i .i64 g])) (rs2 q (aO q q a41 s41 q) (ap q)) (aK ⟨(ah (Zs _)),Zl,Zt⟩) q ⟨Zp,Zf,Zf,Zf,Zt⟩ ⟨q,q⟩

theorem f24_c{mI:lN}{mH:lH}{mO:lO}{mE:Int}{mN:lI}{mS:lL}{mU:lI}{o1:Int}{k2:Int}{vo:Nat}{vf:Nat}{vu:Nat}{r:Int×Int}(h:f24 mI mH mO mE mN mS mU o1 k2=some r):Ctr prog 24 [.pt 0 0, .n o1, .n k2] (wM mI mH mO mE vo mN vu vf mS mU) (cO 4 (λr' new=>r'= .d (.tu [.i .i64 r.1, .i .i64 r.2])∧new=(wM mI mH mO mE vo mN vu vf mS mU))):=by
 unfold f24 at h
 refine cI func24 λ_ _ _ hmm=>?_
 refine Rcl 10 q ?_
 obtain⟨G,f,h⟩:=ab h
 refine WL.wing [0,1,2,3] q q q q (f47_c f) Lw q dC (Re (Rg (Rf (Ro q)))) ⟨q,q,q,q,Zt⟩ Kv q (Zw q) q q (λr' new hS=>?_)
 obtain⟨rfl,rfl⟩:=hS
 refine⟨_,_,q,(Re (Rg (Rf (Ro q)))),q,Kv,?_⟩
 refine St q (Rlc 2 q (Ci h q (λh=>?_) λh=>?_))
 refine Rcx 8 q ?_
 obtain rfl:=Oi h
 exact ay (new:=(wM mI mH mO mE vo mN vu vf mS mU)) (r0:= .d (.tu [.i .i64 0, .i .i64 1])) (rs2 q (ap q) (ap q)) (aK Lw) q ⟨Zp,Zf,Zf,Zf,Zt⟩ ⟨q,q⟩
 refine Rcl 8 q ?_
 obtain⟨g,j,h⟩:=aC h
 obtain⟨k,m,h⟩:=aC h
 refine WL.inl (us:=[.pt 0 0, .n o1, .n k2]) (λrv st'=>(g ()=some r∧Le rv (.d (.v (.pointer none)))∧SLe st' (wM mI mH mO mE vo mN vu vf mS mU))∨(k ()=some r∧Le rv (.pem 2 (Int.toNat o1) vf (Int.toNat k2*1))∧SLe st' (wM mI mH mO mE vo mN vu vf mS mU))) q q q q q ?_ (Zw q) q q ?_
 refine cI func61 λ_ _ _ _=>?_
 refine Rcl 11 q ?_
 apply WL.or 8 (t:=9) (d:=17)
 exact q
 intro H
 exact Rl 5 q (Zy (dM e62 q q q) q q q (Rl 2 q (WL.nil ⟨q,[_,_,_,_,_,_,_,_],q,q,q⟩)))
 exact Rn 8 8
 refine Rl 1 q ?_
 refine OG 3 18 21 3 3 ?_
 refine Rl 1 q ?_
 obtain⟨p,w,h⟩:=ab h
 refine Gg 11 22 33 p w (λh=>?_) (λh=>?_) ?_
 exact On 11 11 h
 refine Rl 6 q ?_
 obtain⟨I,a,h⟩:=ab h
 exact Zy (bZ e62 q q q (ae a) (cD a)) q q q (Zy (ct (i:=o1) q q a42 (bm a)) q q q (Zy (ge e42 q q q (bd a)) q q q (On 2 11 h)))
 refine Rlc 2 q (Ci h q (λh=>Rcx 7 q (ar (rs1 q (ap q)) (.inl ⟨h,Zl,⟨Zp,Zf,Zf,Zf,Zt⟩⟩))) λh=>?_)
 refine Rcl 9 q ?_
 obtain⟨x,c,h⟩:=ab h
 refine Zq (bZ e62 q q q (ae c) (cD c)) q (Zq (ct (i:=o1) q q a42 (bm c)) q (Rl 1 q ?_))
 obtain⟨y,A,h⟩:=ab h
 exact Zq (eN (E:=E2) (L:=mS) (M:=x) (v:=y) e42 q q (bd c) q A) q (Rlx 4 q (ar (rs1 q (ap q)) (.inr (⟨h,Zl,⟨Zp,Zf,Zf,Zf,Zt⟩⟩))))
 rintro rv st1 (⟨h,hr,hst⟩|⟨h,hr,hst⟩)
 subst j
 dsimp only at h
 refine WL.cast 14 q hr (WL.weak hst (Rl 1 q (Zn (Rcl 3 q (Zq (vO underlying128 q) q (Rlc 2 q (bl q (Rcx 9 q ?_))))))))
 obtain rfl:=Oi h
 exact ay (new:=(wM mI mH mO mE vo mN vu vf mS mU)) (r0:= .d (.tu [.i .i64 0, .i .i64 4])) (rs2 q (ap q) (ap q)) (aK Lw) q ⟨Zp,Zf,Zf,Zf,Zt⟩ ⟨q,q⟩
 subst m
 dsimp only at h
 refine WL.cast 14 q hr (WL.weak hst (Rl 1 q (Zn (Rcl 3 q (Zq (vN underlying128 q q) q (Rlc 2 q (cv q (Rcl 3 q (Zq (fK q q) q ?_)))))))))
 obtain⟨B,C,h⟩:=ab h
 obtain⟨e,F,h⟩:=ab h
 refine Zq (iY (E:=E2) (L:=mS) (M:=B) (v:=e) (i:=k2) q q (bd C) F (λ_=>q) dC q a2) q (Rlx 6 q ?_)
 obtain rfl:=Oi h
 exact ay (new:=(wM mI mH mO mE vo mN vu vf mS mU)) (r0:= .d (.tu [.i .i64 e, .i .i64 0])) (rs2 q (ap q) (ap q)) (aK Lw) q ⟨Zp,Zf,Zf,Zf,Zt⟩ ⟨q,q⟩

theorem f26_c{mI:lN}{mH:lH}{mO:lO}{mE:Int}{mN:lI}{mS:lL}{mU:lI}{o1:Int}{k2:Int}{v3:Int}{vo:Nat}{vf:Nat}{vu:Nat}{r:Int×lL}(h:f26 mI mH mO mE mN mS mU o1 k2 v3=some r):Ctr prog 26 [.pt 0 0, .n o1, .n k2, .n v3] (wM mI mH mO mE vo mN vu vf mS mU) (cO 4 (λr' new=>∃i2:Nat,r'= .d (.i .i64 r.1)∧new=[.row 90 (mR mI mH mO mE 1 vo mN 3 vu), .os 42 1 vo (bt 2 i2 (List.length r.2)), .fam 2 1 i2 (bi E2 r.2),uS vu mU])):=by
 unfold f26 at h
 refine cI func26 λ_ _ _ hmm=>?_
 refine Rcl 9 q ?_
 obtain⟨H,f,h⟩:=ab h
 refine WL.wing [0,1,2,3] q q q q (f47_c f) Lw q dC (Re (Rg (Rf (Ro q)))) ⟨q,q,q,q,Zt⟩ Kv q (Zw q) q q (λr' new hS=>?_)
 obtain⟨rfl,rfl⟩:=hS
 refine⟨_,_,q,(Re (Rg (Rf (Ro q)))),q,Kv,?_⟩
 refine St q (Rlc 2 q (Ci h q (λh=>?_) λh=>?_))
 refine Rcx 7 q ?_
 obtain rfl:=Oi h
 exact ay (new:=(wM mI mH mO mE vo mN vu vf mS mU)) (r0:= .d (.i .i64 1)) (rs1 q (ap q)) Zl q ⟨Zp,Zf,Zf,Zf,Zt⟩ ⟨vf,q,q⟩
 refine Rcl 7 q ?_
 obtain⟨g,j,h⟩:=aC h
 obtain⟨k,m,h⟩:=aC h
 refine WL.inl (us:=[.pt 0 0, .n o1, .n k2]) (λrv st'=>(g ()=some r∧Le rv (.d (.v (.pointer none)))∧SLe st' (wM mI mH mO mE vo mN vu vf mS mU))∨(k ()=some r∧Le rv (.pem 2 (Int.toNat o1) vf (Int.toNat k2*1))∧SLe st' (wM mI mH mO mE vo mN vu vf mS mU))) q q q q q ?_ (Zw q) q q ?_
 refine cI func61 λ_ _ _ _=>?_
 refine Rcl 11 q ?_
 apply WL.or 8 (t:=9) (d:=17)
 exact q
 intro I
 exact Rl 5 q (Zy (dM e62 q q q) q q q (Rl 2 q (WL.nil ⟨q,[_,_,_,_,_,_,_,_],q,q,q⟩)))
 exact Rn 8 8
 refine Rl 1 q ?_
 refine OG 3 18 21 3 3 ?_
 refine Rl 1 q ?_
 obtain⟨p,w,h⟩:=ab h
 refine Gg 11 22 33 p w (λh=>?_) (λh=>?_) ?_
 exact On 11 11 h
 refine Rl 6 q ?_
 obtain⟨J,c,h⟩:=ab h
 exact Zy (bZ e62 q q q (ae c) (cD c)) q q q (Zy (ct (i:=o1) q q a42 (bm c)) q q q (Zy (ge e42 q q q (bd c)) q q q (On 2 11 h)))
 refine Rlc 2 q (Ci h q (λh=>Rcx 7 q (ar (rs1 q (ap q)) (.inl ⟨h,Zl,⟨Zp,Zf,Zf,Zf,Zt⟩⟩))) λh=>?_)
 refine Rcl 9 q ?_
 obtain⟨x,e,h⟩:=ab h
 refine Zq (bZ e62 q q q (ae e) (cD e)) q (Zq (ct (i:=o1) q q a42 (bm e)) q (Rl 1 q ?_))
 obtain⟨y,A,h⟩:=ab h
 exact Zq (eN (E:=E2) (L:=mS) (M:=x) (v:=y) e42 q q (bd e) q A) q (Rlx 4 q (ar (rs1 q (ap q)) (.inr (⟨h,Zl,⟨Zp,Zf,Zf,Zf,Zt⟩⟩))))
 rintro rv st1 (⟨h,hr,hst⟩|⟨h,hr,hst⟩)
 subst j
 dsimp only at h
 refine WL.cast 15 q hr (WL.weak hst (Rl 1 q (Zn (Rcl 5 q (Zq (nL underlying128 q) q (Rlc 3 q (cv q (Rcx 8 q ?_))))))))
 obtain rfl:=Oi h
 exact ay (new:=(wM mI mH mO mE vo mN vu vf mS mU)) (r0:= .d (.i .i64 4)) (rs1 q (ap q)) Zl q ⟨Zp,Zf,Zf,Zf,Zt⟩ ⟨vf,q,q⟩
 subst m
 dsimp only at h
 refine WL.cast 15 q hr (WL.weak hst (Rl 1 q (Zn (Rcl 5 q (Zq (pP underlying128 q q) q (Rlc 3 q (bl q (Rcl 7 q (Ix h e33 bD q Zl q q λK _ h=>(Rl 2 q ?_))))))))))
 obtain⟨N,B,h⟩:=ab h
 refine wF Z4 (f63_c B) Lw Z3 (Rlc 4 q (Ci h q (λh=>?_) λh=>?_))
 refine Rcx 8 q ?_
 obtain rfl:=Oi h
 exact ay (new:=(wM mI mH mO mE vo mN vu vf mS mU)) (r0:= .d (.i .i64 280)) (rs1 q (ap q)) Zl q ⟨Zp,Zf,Zf,Zf,Zt⟩ ⟨vf,q,q⟩
 refine Rcl 7 q (Zq (fK q q) q ?_)
 obtain⟨a,C,h⟩:=ab h
 obtain⟨F,G,h⟩:=ab h
 refine WL.s0 (fV (E:=E2) (L:=mS) (M:=a) (v:=F) (z:=v3) (i:=k2) q q (bd C) G (λ_=>q) q q Lw q s2) (Zw q) q (WL.st (st':=[.row 90 (mR mI mH mO mE 1 vo mN 3 vu), .os 42 1 vo (bt 2 vf (List.length (List.set mS (Int.toNat o1) (List.set a (Int.toNat k2) v3)))), .fam 2 1 vf (bi E2 (List.set mS (Int.toNat o1) (List.set a (Int.toNat k2) v3))),uS vu mU]) (by show([.row 90 (mR mI mH mO mE 1 vo mN 3 vu),oS vo 2 vf mS, .fam 2 1 vf (bi E2 (List.set mS (Int.toNat o1) (List.set a (Int.toNat k2) v3))),uS vu mU]:lW)=_;rw[List.length_set]) (Rlx 8 q ?_))
 obtain rfl:=Oi h
 exact ay (new:=[.row 90 (mR mI mH mO mE 1 vo mN 3 vu), .os 42 1 vo (bt 2 vf (List.length (List.set mS (Int.toNat o1) (List.set a (Int.toNat k2) v3)))), .fam 2 1 vf (bi E2 (List.set mS (Int.toNat o1) (List.set a (Int.toNat k2) v3))),uS vu mU]) (r0:= .d (.i .i64 0)) (rs1 q (ap q)) Zl q ⟨Zp,Zf,Zf,Zf,Zt⟩ ⟨vf,q,q⟩

theorem f38_c{s0:lN}{r:lN}(h:f38 s0=some r):Pu prog 38 [.sl (List.map E45 s0)] (.sl (List.map E45 r)):=by
 unfold f38 at h
 replace h:=aD h
 obtain⟨hg,h⟩:=h
 obtain rfl:=Oi h
 refine fI func38 λ_ _=>?_
 refine Rcl 9 q (ir false q underlying23 q Zl (Zw q) q λb hb=>?_)
 refine Rlc 2 q (eo q (λhc=>?_) λhc=>?_)
 have a:=hb (by cases b<;>first|rfl|cases hc)
 exact Rcx 7 q (am (rs1 q (ap q)) (by rw[a];exact Le.nil))
 exact Rcl 4 q (WL.s ((ej l23).does) (Zw q) q q (Rl 1 q (WL.s ((eQ ([]:lN) s0 dr l23 z45 q dC q q q (dc Zl dr λ_=>q) (λ_=>q) hg).does) (Zw q) q q (Rlx 4 q (am (rs1 q (ap q)) Zl)))))

theorem f39_c{s0:lH}{r:lH}(h:f39 s0=some r):Pu prog 39 [.sl (List.map bq s0)] (.sl (List.map bq r)):=by
 unfold f39 at h
 replace h:=aD h
 obtain⟨hg,h⟩:=h
 obtain rfl:=Oi h
 refine fI func39 λ_ _=>?_
 refine Rcl 9 q (ir false q underlying29 q Zl (Zw q) q λb hb=>?_)
 refine Rlc 2 q (eo q (λhc=>?_) λhc=>?_)
 have a:=hb (by cases b<;>first|rfl|cases hc)
 exact Rcx 7 q (am (rs1 q (ap q)) (by rw[a];exact Le.nil))
 exact Rcl 4 q (WL.s ((ej l29).does) (Zw q) q q (Rl 1 q (WL.s ((eQ ([]:lH) s0 eK l29 mW q dC q q q (dc Zl eK λ_=>q) (λ_=>q) hg).does) (Zw q) q q (Rlx 4 q (am (rs1 q (ap q)) Zl)))))

theorem f43_c{s0:lI}{r:lI}(h:f43 s0=some r):Pu prog 43 [.sl (List.map E3 s0)] (.sl (List.map E3 r)):=by
 unfold f43 at h
 replace h:=aD h
 obtain⟨hg,h⟩:=h
 obtain rfl:=Oi h
 refine fI func43 λ_ _=>?_
 refine Rcl 9 q (ir false q underlying96 q Zl (Zw q) q λb hb=>?_)
 refine Rlc 2 q (eo q (λhc=>?_) λhc=>?_)
 have a:=hb (by cases b<;>first|rfl|cases hc)
 exact Rcx 7 q (am (rs1 q (ap q)) (by rw[a];exact Le.nil))
 exact Rcl 4 q (WL.s ((ej l96).does) (Zw q) q q (Rl 1 q (WL.s ((eQ ([]:lI) s0 fd l96 z3 q dC q q q (dc Zl fd λ_=>q) (λ_=>q) hg).does) (Zw q) q q (Rlx 4 q (am (rs1 q (ap q)) Zl)))))

theorem f14_c{a0:lI}{b1:lI}{r:Bool}(h:f14 a0 b1=some r):Pu prog 14 [.sl (List.map E2 a0), .sl (List.map E2 b1)] (.b r):=by
 unfold f14 at h
 refine fI func14 λ_ _=>?_
 refine Rcl 9 q (Zq (ac E2 a0 e42 q q Zl) q (Rl 1 q (Zq (ac E2 b1 e42 q q Zl) q (Rlc 3 q (Ci h q (λh=>?_) λh=>?_)))))
 exact Rcx 7 q (FA h)
 refine Rcc 2 q (Jn0 [] [] h (λe h=>?_) λh=>?_)
 refine Rcc 6 q (Ln1 (λa=> [(0, .l E2 a0),(1, .l E2 b1),(5, .n a)]) (λ_=> []) (f14_l1 a0 b1 e) h (λ_ h=>by rw[f14_l1] at h;cases h) λn a h=>?_)
 rw[f14_l1] at h
 refine Rcl 5 q (Zq (ac E2 a0 e42 q q Zl) q (Rlc 3 q (Ci h q (λh=>?_) λh=>?_)))
 refine Rcc 5 q (ao kR kR (Rq 2 q ?_))
 obtain⟨f,c,h⟩:=ab h
 refine WQ.qn (ai e42 q Zl q (ae c) (az dx c) q) q (Rq 3 q ?_)
 obtain⟨g,d,h⟩:=ab h
 refine WQ.qn (ai e42 q Zl q (ae d) (az dx d) q) q (Rq 2 q (WQ.nil (Rxc 1 q (Ci h q (λh=>?_) λh=>?_))))
 exact Rcx 11 q (FA h)
 exact Rcx 8 q (Fn1 h)
 exact Rcx 4 q (En0 h)
 exact Rcx 6 q (FA h)

theorem f12_c{t0:aj}{r:Bool}(h:f12 t0=some r):Pu prog 12 [.ag (R38 t0)] (.b r):=by
 unfold f12 at h
 refine fI func12 λ_ _=>?_
 refine Rcl 2 q (Bd q q (Zs _) q (Rlc 8 q (Jn1 (λa=> [(1, .d (.pc (R38 t0))),(3, .n a)]) (λ_=> []) h (λf h=>?_) λa h=>?_)))
 refine Rcc 6 q (Ln2 (λc e=> [(1, .d (.pc (R38 t0))),(3, .n c),(4, .n e)]) (λ_ _=> []) (f12_l1 t0 f) h (λ_ _ h=>by rw[f12_l1] at h;cases h) λn c e h=>?_)
 rw[f12_l1] at h
 refine Rcl 6 q (Zq (ac br t0.objs e33 q q Zl) q (Rl 2 q ?_))
 refine AG 3 10 13 3 3 ?_
 refine Rlc 2 q (Ci h q (λh=>?_) λh=>?_)
 exact Rcl 9 q (Ix h e33 bD q Zl q q λg _ h=>(Rl 2 q (Zq (su q q q) q (Zq (qA q q q) q (Rlx 10 q (Fn2 h))))))
 exact Rcx 4 q (En1 h)
 refine Rcl 5 q ?_
 apply WL.or 5 (t:=28) (d:=33)
 exact q
 intro j
 exact Rl 2 q (Zy (ac E45 t0.insns e23 q q Zl) q q q (Rl 2 q (WL.nil ⟨q,[_,_,_,_,_],q,q,q⟩)))
 exact Rn 5 5
 refine Rl 1 q ?_
 apply WL.or 5 (t:=34) (d:=39)
 exact q
 intro k
 exact Rl 2 q (Zy (ac bq t0.handlers e29 q q Zl) q q q (Rl 2 q (WL.nil ⟨q,[_,_,_,_,_],q,q,q⟩)))
 exact Rn 5 5
 refine Rl 1 q ?_
 apply WL.or 5 (t:=40) (d:=45)
 exact q
 intro m
 exact Rl 2 q (Zy (ac bT t0.loops e30 q q Zl) q q q (Rl 2 q (WL.nil ⟨q,[_,_,_,_,_],q,q,q⟩)))
 exact Rn 5 5
 refine Rl 1 q ?_
 apply WL.or 5 (t:=46) (d:=51)
 exact q
 intro p
 exact Rl 2 q (Zy (ac bS t0.selects e31 q q Zl) q q q (Rl 2 q (WL.nil ⟨q,[_,_,_,_,_],q,q,q⟩)))
 exact Rn 5 5
 refine Rl 1 q ?_
 apply WL.or 5 (t:=52) (d:=57)
 exact q
 intro w
 exact Rl 2 q (Zy (ac E96 t0.lists e32 q q Zl) q q q (Rl 2 q (WL.nil ⟨q,[_,_,_,_,_],q,q,q⟩)))
 exact Rn 5 5
 refine Rl 1 q ?_
 apply WL.or 5 (t:=58) (d:=63)
 exact q
 intro x
 exact Rl 2 q (Zy (ac br t0.objs e33 q q Zl) q q q (Rl 2 q (WL.nil ⟨q,[_,_,_,_,_],q,q,q⟩)))
 exact Rn 5 5
 refine Rl 1 q ?_
 apply WL.or 5 (t:=64) (d:=69)
 exact q
 intro y
 exact Rl 2 q (Zy (ac bO t0.inits e34 q q Zl) q q q (Rl 2 q (WL.nil ⟨q,[_,_,_,_,_],q,q,q⟩)))
 exact Rn 5 5
 refine Rl 1 q ?_
 apply WL.or 5 (t:=70) (d:=75)
 exact q
 intro A
 exact Rl 2 q (Zy (ac E27 t0.tasks e28 q q Zl) q q q (Rl 2 q (WL.nil ⟨q,[_,_,_,_,_],q,q,q⟩)))
 exact Rn 5 5
 refine Rl 1 q ?_
 apply WL.or 5 (t:=76) (d:=81)
 exact q
 intro B
 exact Rl 2 q (Zy (ac bI t0.prots e35 q q Zl) q q q (Rl 2 q (WL.nil ⟨q,[_,_,_,_,_],q,q,q⟩)))
 exact Rn 5 5
 refine Rl 1 q ?_
 apply WL.or 5 (t:=82) (d:=87)
 exact q
 intro C
 exact Rl 2 q (Zy (ac bY t0.checks e36 q q Zl) q q q (Rl 2 q (WL.nil ⟨q,[_,_,_,_,_],q,q,q⟩)))
 exact Rn 5 5
 exact Rlx 4 q (FA h)

theorem f42_c{s0:lI}{r:lI}(h:f42 s0=some r):Pu prog 42 [.sl (List.map E2 s0)] (.sl (List.map E2 r)):=by
 unfold f42 at h
 replace h:=aD h
 obtain⟨hg,h⟩:=h
 obtain rfl:=Oi h
 refine fI func42 λ_ _=>?_
 refine Rcl 9 q (ir false q underlying42 q Zl (Zw q) q λb hb=>?_)
 refine Rlc 2 q (eo q (λhc=>?_) λhc=>?_)
 have a:=hb (by cases b<;>first|rfl|cases hc)
 exact Rcx 7 q (am (rs1 q (ap q)) (by rw[a];exact Le.nil))
 exact Rcl 4 q (WL.s ((ej l42).does) (Zw q) q q (Rl 1 q (WL.s ((eQ ([]:lI) s0 dx l42 z2 q dC q q q (dc Zl dx λ_=>q) (λ_=>q) hg).does) (Zw q) q q (Rlx 4 q (am (rs1 q (ap q)) Zl)))))

theorem f42c_c{s0:lI}{v0:Nat}{r:lI}(h:f42c s0=some r):Ctr prog 42 [.os 0 v0] [uS v0 s0] (cO 1 (λr' new=>r'= .l E2 r∧new=[uS v0 s0])):=by
 unfold f42c at h
 replace h:=aD h
 obtain⟨hg,h⟩:=h
 obtain rfl:=Oi h
 refine cI func42 λ_ _ _ hmm=>?_
 refine Rcl 9 q (sd underlying42 q q (Zw q) q λb hb=>?_)
 refine Rlc 2 q (eo q (λhc=>?_) λhc=>?_)
 have a:=hb hc
 exact Rcx 7 q (ay (new:=[uS v0 s0]) (r0:= .l E2 s0) (rs1 q (ap q)) (by rw[a];exact Le.nil) q ⟨Zf,Zt⟩ ⟨q,q⟩)
 exact Rcl 4 q (WL.s ((ej l42).does) (Zw q) q q (Rl 1 q (WL.s ((eQ ([]:lI) s0 dx l42 z2 q dC q q q (Src.own q) (λ_=>q) hg).does) (Zw q) q q (Rlx 4 q (ay (new:=[uS v0 s0]) (r0:= .l E2 s0) (rs1 q (ap q)) Zl q ⟨Zf,Zt⟩ ⟨q,q⟩)))))

theorem f42m_c{s0:lL}{j0:Int}{v0:Nat}{r:lI}(h:f42m s0 j0=some r):Ctr prog 42 [.osf 0 (Int.toNat j0) v0] [fS v0 s0] (cO 1 (λr' new=>r'= .l E2 r∧new=[fS v0 s0])):=by
 unfold f42m at h
 obtain⟨M,hM,h⟩:=ab h
 replace h:=aD h
 obtain⟨hg,h⟩:=h
 obtain rfl:=Oi h
 refine cI func42 λ_ _ _ hmm=>?_
 refine Rcl 9 q (nF underlying42 q q (bd hM) (Zw q) q λb hb=>?_)
 refine Rlc 2 q (eo q (λhc=>?_) λhc=>?_)
 have a:=hb hc
 exact Rcx 7 q (ay (new:=[fS v0 s0]) (r0:= .l E2 M) (rs1 q (ap q)) (by rw[a];exact Le.nil) q ⟨Zf,Zt⟩ ⟨q,q⟩)
 exact Rcl 4 q (WL.s ((ej l42).does) (Zw q) q q (Rl 1 q (WL.s ((eQ ([]:lI) M dx l42 z2 q dC q q q (Src.mem q (bd hM)) (λ_=>q) hg).does) (Zw q) q q (Rlx 4 q (ay (new:=[fS v0 s0]) (r0:= .l E2 M) (rs1 q (ap q)) Zl q ⟨Zf,Zt⟩ ⟨q,q⟩)))))

theorem f28_c{mI:lN}{mH:lH}{mO:lO}{mE:Int}{mN:lI}{mS:lL}{mU:lI}{vo:Nat}{vf:Nat}{vu:Nat}{r:lL}(h:f28 mI mH mO mE mN mS mU=some r):Ctr prog 28 [.pt 0 0] (wM mI mH mO mE vo mN vu vf mS mU) (cO 4 (λr' new=>r'= .l E42 r∧new=(wM mI mH mO mE vo mN vu vf mS mU))):=by
 unfold f28 at h
 refine cI func28 λ_ _ _ hmm=>?_
 refine Rcl 9 q ?_
 obtain⟨x,j,h⟩:=ab h
 refine WL.wing [0,1,2,3] q q q q (f47_c j) Lw q dC (Re (Rg (Rf (Ro q)))) ⟨q,q,q,q,Zt⟩ Kv q (Zw q) q q (λr' new hS=>?_)
 obtain⟨rfl,rfl⟩:=hS
 refine⟨_,_,q,(Re (Rg (Rf (Ro q)))),q,Kv,?_⟩
 refine St q (Rlc 2 q (Ci h q (λh=>?_) λh=>?_))
 refine Rcx 7 q ?_
 obtain rfl:=Oi h
 exact ay (new:=(wM mI mH mO mE vo mN vu vf mS mU)) (r0:= .l E42 []) (rs1 q (ap q)) Le.nil q ⟨Zp,Zf,Zf,Zf,Zt⟩ ⟨q,q⟩
 refine Rcl 8 q (Zq (dM e62 q q q) q ?_)
 replace h:=aD h
 obtain⟨m,h⟩:=h
 refine WL.s ((NewOs.b (NewOs.weak (eh l62 z42 q (Nat.succ_pos _) q q m) (by exact jI (R:=E42) (z:=([]:lI)) (show Les [sN] [AV.d (.sl [])] from⟨Le.nil,Zt⟩) _))).does) (Zw q) q q (Rlc 3 q (Jn1 (λ_=> [(3, .os 4 0)]) (λc=> [.row 90 (mR mI mH mO mE 1 vo mN 3 vu),oS vo 2 vf mS,fS vf mS,uS vu mU, .os 42 1 0 (eM E42 c)]) h (λp h=>?_) λc h=>?_))
 refine Rcl 6 q (Zq (dM e62 q q q) q (Rlc 4 q (Ln2 (λa _=> [(3, .os 4 0),(17, .os 1 vo),(18, .n (List.length mS:Int)),(19, .n a)]) (λ_ f=> [.row 90 (mR mI mH mO mE 1 vo mN 3 vu),oS vo 2 vf mS,fS vf mS,uS vu mU, .os 42 1 0 (eM E42 f)]) (f28_l1 mS p) h (λ_ _ h=>by rw[f28_l1] at h;cases h) λn a f h=>?_)))
 rw[f28_l1] at h
 refine Rcc 6 q (Ci h q (λh=>?_) λh=>?_)
 refine Rcl 7 q ?_
 obtain⟨y,e,h⟩:=ab h
 refine Zq (bZ e62 q q q (ae e) (cD e)) q (Zq (ct (i:=a) q q a42 (bm e)) q (Rll 8 q ?_))
 obtain⟨t,w,h⟩:=ab h
 refine WL.wing [2] q q q q (f42m_c w) Lw q dC (Rf q) ⟨q,Zt⟩ Kv q (Zw q) q q (λr' new hS=>?_)
 obtain⟨rfl,rfl⟩:=hS
 refine⟨_,_,q,(Rf q),q,Kv,?_⟩
 refine St q ?_
 obtain⟨A,g,h⟩:=ab h
 exact Zq (iX e62 q q q g) q (WL.s0 (cF (R:=E42) (k:=1) (i:=a) (fo:=0) t q q q q Zl q q q s42 q (λ_=>q) g q q) (Zw q) q (Rlx 7 q (Fn2 h)))
 exact Rcx 4 q (En1 h)
 refine Rcx 7 q ?_
 refine WE.freezeX [3,30,2] [] 4 _ q (al fc _) ⟨q,q,q,Zt⟩ Zt ?_
 obtain rfl:=Oi h
 exact ay (new:=(wM mI mH mO mE vo mN vu vf mS mU)) (r0:= .l E42 c) (rs1 q (ap q)) Zl q ⟨Zp,Zf,Zf,Zf,Zt⟩ ⟨q,q⟩

theorem f13_c{mI:lN}{mH:lH}{mO:lO}{mE:Int}{mN:lI}{mS:lL}{mU:lI}{vo:Nat}{vf:Nat}{vu:Nat}{r:lI}(h:f13 mI mH mO mE mN mS mU=some r):Ctr prog 13 [.pt 0 0] (wM mI mH mO mE vo mN vu vf mS mU) (cO 4 (λr' new=>r'= .l E2 r∧new=(wM mI mH mO mE vo mN vu vf mS mU))):=by
 unfold f13 at h
 refine cI func13 λ_ _ _ hmm=>?_
 refine Rcl 9 q ?_
 obtain⟨e,a,h⟩:=ab h
 refine WL.wing [0,1,2,3] q q q q (f47_c a) Lw q dC (Re (Rg (Rf (Ro q)))) ⟨q,q,q,q,Zt⟩ Kv q (Zw q) q q (λr' new hS=>?_)
 obtain⟨rfl,rfl⟩:=hS
 refine⟨_,_,q,(Re (Rg (Rf (Ro q)))),q,Kv,?_⟩
 refine St q (Rlc 2 q (Ci h q (λh=>?_) λh=>?_))
 refine Rcx 7 q ?_
 obtain rfl:=Oi h
 exact ay (new:=(wM mI mH mO mE vo mN vu vf mS mU)) (r0:= .l E2 []) (rs1 q (ap q)) Le.nil q ⟨Zp,Zf,Zf,Zf,Zt⟩ ⟨q,q⟩
 refine Rcl 8 q ?_
 obtain⟨c,d,h⟩:=ab h
 refine wF Z4 (f42_c d) Lw Z3 (Rlx 4 q ?_)
 obtain rfl:=Oi h
 exact ay (new:=(wM mI mH mO mE vo mN vu vf mS mU)) (r0:= .l E2 c) (rs1 q (ap q)) Zl q ⟨Zp,Zf,Zf,Zf,Zt⟩ ⟨q,q⟩

theorem f15_c{mI:lN}{mH:lH}{mO:lO}{mE:Int}{mN:lI}{mS:lL}{mU:lI}{vo:Nat}{vf:Nat}{vu:Nat}{r:lI}(h:f15 mI mH mO mE mN mS mU=some r):Ctr prog 15 [.pt 0 0] (wM mI mH mO mE vo mN vu vf mS mU) (cO 4 (λr' new=>r'= .l E2 r∧new=(wM mI mH mO mE vo mN vu vf mS mU))):=by
 unfold f15 at h
 refine cI func15 λ_ _ _ hmm=>?_
 refine Rcl 9 q ?_
 obtain⟨e,a,h⟩:=ab h
 refine WL.wing [0,1,2,3] q q q q (f47_c a) Lw q dC (Re (Rg (Rf (Ro q)))) ⟨q,q,q,q,Zt⟩ Kv q (Zw q) q q (λr' new hS=>?_)
 obtain⟨rfl,rfl⟩:=hS
 refine⟨_,_,q,(Re (Rg (Rf (Ro q)))),q,Kv,?_⟩
 refine St q (Rlc 2 q (Ci h q (λh=>?_) λh=>?_))
 refine Rcx 7 q ?_
 obtain rfl:=Oi h
 exact ay (new:=(wM mI mH mO mE vo mN vu vf mS mU)) (r0:= .l E2 []) (rs1 q (ap q)) Le.nil q ⟨Zp,Zf,Zf,Zf,Zt⟩ ⟨q,q⟩
 refine Rcl 8 q ?_
 obtain⟨c,d,h⟩:=ab h
 refine WL.wing [3] q q q q (f42c_c d) Lw q dC (Ro q) ⟨q,Zt⟩ Kv q (Zw q) q q (λr' new hS=>?_)
 obtain⟨rfl,rfl⟩:=hS
 refine⟨_,_,q,(Ro q),q,Kv,?_⟩
 refine St q (Rlx 4 q ?_)
 obtain rfl:=Oi h
 exact ay (new:=(wM mI mH mO mE vo mN vu vf mS mU)) (r0:= .l E2 c) (rs1 q (ap q)) Zl q ⟨Zp,Zf,Zf,Zf,Zt⟩ ⟨q,q⟩

theorem f41_c{t0:aj}{vo:Nat}{vf:Nat}{r:lL}(h:f41 t0=some r):Ctr prog 41 [.d (.ag (R38 t0))] [.rsv, .rsv] (cO 2 (λr' new=>r'= .os 0 vo∧new=[oS vo 1 vf r,fS vf r])):=by
 unfold f41 at h
 refine cI func41 λ_ _ _ hmm=>?_
 refine Rcl 2 q (Bd q q (Zs _) q (Rll 7 q ?_))
 obtain⟨a6,X,h⟩:=ab h
 refine wF Z4 (f37_c X) Lw Z3 (Rlc 3 q (Ci h q (λh=>?_) λh=>?_))
 refine Rcx 7 q ?_
 cases h
 refine Rcl 6 q (Zq (ac br t0.objs e33 q q Zl) q ?_)
 replace h:=aD h
 obtain⟨Y,h⟩:=h
 refine WL.s ((NewOs.b (eh l62 z42 q (Nat.succ_pos _) q q Y)).does) (Zw q) q q (dK (mh E2 2 2 1 q) (Rlc 3 q ?_))
 replace h:=aC h
 obtain⟨S,Z,h⟩:=h
 refine cB (λenv' st'=>∃(F:lL),∃(P:Nat),S F=some r∧Sub [(1, .d (.pc (R38 t0))),(3, .os 2 0)] env'∧SLe st' [.rsv, .rsv,oS 0 3 P F,fS P F]) ?_ ?_
 refine Rcl 4 q (Zq (ac br t0.objs e33 q q Zl) q (Rlc 4 q (cX (λn env' st'=>∃(c:Int),∃(f:lL),∃(y:Nat),f41_l1 t0 S n c f=some r∧Sub [(1, .d (.pc (R38 t0))),(3, .os 2 0),(17, .l br t0.objs),(18, .n (List.length t0.objs:Int)),(19, .n c)] env'∧SLe st' [.rsv, .rsv,oS 0 3 y f,fS y f]) (λn=>n) (Int.toNat ((List.length t0.objs:Int) - 0)+1) ⟨0,(List.replicate (Int.toNat (List.length t0.objs:Int)) ([]:lI)),_,h,(Sx q (Sx q (Sx q (Sx q (Sx q (Sub.nil _)))))),⟨Zt,Zt,Zf,Zf,Zt⟩⟩ ?_)))
 rintro n G st1 ⟨c,f,y,h,hsub,hst⟩
 rcases n with _|n
 rw[f41_l1] at h;cases h
 rw[f41_l1] at h
 refine WC.sub hsub (WC.weak hst ?_)
 refine Rcc 6 q (Ci h q (λh=>?_) λh=>?_)
 refine Rcc 2 q ?_
 replace h:=aC h
 obtain⟨T,ad,h⟩:=h
 refine cB (λenv' st'=>∃(J:lL),∃(Q:Nat),T J=some r∧Sub [(1, .d (.pc (R38 t0))),(3, .os 2 0),(17, .l br t0.objs),(18, .n (List.length t0.objs:Int)),(19, .n c)] env'∧SLe st' [.rsv, .rsv,oS 0 3 Q J,fS Q J]) ?_ ?_
 refine Rcl 4 q (Ix h e33 bD q Zl q q λa _ h=>(Rl 1 q (Al nJ q (Rl 1 q (sS Z6 oT Z2 (Rll 8 q ?_))))))
 replace h:=aD h
 obtain⟨ax,h⟩:=h
 refine WL.s ((NewOs.b (NewOs.cast (eh l42 z2 q (Nat.succ_pos _) q q ax) (by exact fF (R:=E2) (z:=(0:Int)) q))).does) (Zw q) q q ?_
 obtain⟨a7,K,h⟩:=ab h
 refine Zq (bZ e62 q q q (ae K) (cD K)) q (WL.s0 (kW (i:=c) (n:=List.length f) q q q q s42 (bm K)) (Zw q) q (dK (gF (L:=f) (_x:=[]) (x':=(List.replicate (Int.toNat a.size) (0:Int))) (j:=Int.toNat c) 2 3 5 (List.set f (Int.toNat c) (List.replicate (Int.toNat a.size) (0:Int))) q q q q q (bm K) q) (Rll 5 q ?_)))
 obtain⟨a8,a0,h⟩:=ab h
 refine wF Z4 (f79_c a0) ⟨(ah (Zs _)),Zl,Zt⟩ Z3 (Rlc 3 q (Ci h q (λh=>?_) λh=>?_))
 refine Rcl 4 q ?_
 obtain⟨p,E,h⟩:=ab h
 refine Zq (bZ e62 q q q (ae E) (cD E)) q (dK (fT (L:=(List.set f (Int.toNat c) (List.replicate (Int.toNat a.size) (0:Int)))) (x:=p) (i:=c) 2 3 q q q E) (Zq (gt (i:=c) q q a42 (bm E)) q (Zq (d8 (ba E2) p e42 q q q) q (Rlx 2 q (mM (fU (L0:=(List.set f (Int.toNat c) (List.replicate (Int.toNat a.size) (0:Int)))) (x':=p) 2 3 6 q q q q q (bm E)) ?_)))))
 refine cJ (st':=[.rsv, .rsv, .os 42 1 0 (bt 3 (((y+1)+1)+1) (List.length (List.set f (Int.toNat c) (List.replicate (Int.toNat a.size) (0:Int))))), .fam 2 1 (((y+1)+1)+1) (bi E2 (List.set f (Int.toNat c) (List.replicate (Int.toNat a.size) (0:Int)))), .row 101 [.n a.size, .n a.lo, .n a.hi, .d (D.b a.ptr), .l E3 a.set_], .z, .z]) (by show([.rsv, .rsv, .os 42 1 0 (bt 3 (((y+1)+1)+1) (List.length (List.set (List.set f (Int.toNat c) (List.replicate (Int.toNat a.size) (0:Int))) (Int.toNat c) p))), .fam 2 1 (((y+1)+1)+1) (bi E2 (List.set (List.set f (Int.toNat c) (List.replicate (Int.toNat a.size) (0:Int))) (Int.toNat c) p)), .row 101 [.n a.size, .n a.lo, .n a.hi, .d (D.b a.ptr), .l E3 a.set_], .z, .z]:lW)=_;rw[nQ E]) (Rxc 2 q ?_)
 refine cX (λna env' st'=>∃(A:Int),∃(g:lL),∃(B:Nat),f41_l2 c T a p na A g=some r∧Sub [(1, .d (.pc (R38 t0))),(3, .os 2 0),(4, .n c),(5, .pt 4 0),(17, .l br t0.objs),(18, .n (List.length t0.objs:Int)),(19, .n c),(37, .n (List.length p:Int)),(38, .n A)] env'∧SLe st' [.rsv, .rsv,oS 0 3 B g,fS B g, .row 101 [.n a.size, .n a.lo, .n a.hi, .d (D.b a.ptr), .l E3 a.set_], .z, .z]) (λn=>n) (Int.toNat ((List.length p:Int) - 0)+1) ⟨0,(List.set f (Int.toNat c) (List.replicate (Int.toNat a.size) (0:Int))),_,h,(Sx q (Sx q (Sx q (Sx q (Sx q (Sx q (Sx q (Sx q (Sx q (Sub.nil _)))))))))),⟨Zt,Zt,Zf,Zf,Zp,Zt,Zt,Zt⟩⟩ ?_
 rintro na G st1 ⟨A,g,B,h,hsub,hst⟩
 rcases na with _|na
 rw[f41_l2] at h;cases h
 rw[f41_l2] at h
 refine WC.sub hsub (WC.weak hst ?_)
 refine Rcc 6 q (Ci h q (λh=>?_) λh=>?_)
 refine Rcc 10 q ?_
 obtain⟨M,H,h⟩:=ab h
 obtain⟨a',U,h⟩:=ab h
 apply RT [_,_,_,_,_,_,_,_, .u] [3,8] [[.rsv, .rsv, .os 42 1 0 (List.set (bt 3 (B+1) (List.length g)) (Int.toNat c) [.os 7 0]), .fam 2 1 (B+1) (bi E2 (List.set g (Int.toNat c) [])), .row 101 [.n a.size, .n a.lo, .n a.hi, .d (D.b a.ptr), .l E3 a.set_], .z, .z,uS 0 M],[.rsv, .rsv, .os 42 1 0 (List.set (bt 3 (B+1) (List.length g)) (Int.toNat c) [.os 7 0]), .fam 2 1 (B+1) (bi E2 (List.set g (Int.toNat c) [])), .row 101 [.n a.size, .n a.lo, .n a.hi, .d (D.b a.ptr), .l E3 a.set_], .z, .z, .os 2 1 0 (eM E2 (List.set M (Int.toNat A) a.lo))]] [p01 3,p01 4,p20 0 1,p10 2,u01 6,u01 5,u10 5,q20 3 4 1,q20 7 6 1] kR kR q q
 refine Y2 ?_
 refine zo (λ_=>Zq (bZ e62 q q q (ae H) (cD H)) q (Zd q q q)) ?_
 refine zo (λ_=>dK (fT (L:=g) (x:=M) (i:=c) 2 3 q q q H) (Zq (gt (i:=c) q q a42 (bm H)) q (Zd q q q))) ?_
 refine X2c ?_
 refine zo (λ_=>Zq (iX e42 q q q U) q (Zd q q q)) ?_
 exact zo (λ_=>WL.s0 (cF (R:=E2) (k:=1) (i:=A) (fo:=0) a.lo q q q q Zl q q q s2 q (λ_=>q) U q q) (Zw q) q (aJ q q)) Zt
 exact mM (fU (L0:=g) (x':=(List.set M (Int.toNat A) a.lo)) 2 3 7 q q q q q (bm H)) (Rxx 6 q (WE.drop 7 (env':=[(1, .d (.pc (R38 t0))),(3, .os 2 0),(4, .n c),(5, .pt 4 0),(17, .l br t0.objs),(18, .n (List.length t0.objs:Int)),(19, .n c),(37, .n (List.length p:Int)),(38, .n (IntKind.i64.wrap (A+1)))]) Sb q Kv (Nat.le_trans (Nat.le_of_eq hmm) (nbT q)) (Fn3 h)))
 exact Rcx 5 q (WE.drop 4 (env':=[(1, .d (.pc (R38 t0))),(3, .os 2 0),(17, .l br t0.objs),(18, .n (List.length t0.objs:Int)),(19, .n c)]) Sb q Kv (Nat.le_trans (Nat.le_of_eq hmm) (nbT q)) (En2 h))
 exact Rcx 2 q (WE.drop 4 (env':=[(1, .d (.pc (R38 t0))),(3, .os 2 0),(17, .l br t0.objs),(18, .n (List.length t0.objs:Int)),(19, .n c)]) Sb q Kv (Nat.le_trans (Nat.le_of_eq hmm) (nbT q)) (En2 h))
 rintro G st1 ⟨J,Q,h,hsub,hst⟩
 subst ad
 dsimp only at h
 refine WC.sub hsub (WC.weak hst ?_)
 exact Rcx 4 q (Fn3 h)
 exact Rcx 4 q (En2 h)
 rintro G st1 ⟨F,P,h,hsub,hst⟩
 subst Z
 dsimp only at h
 refine WC.sub hsub (WC.weak hst ?_)
 replace h:=aC h
 obtain⟨V,a1,h⟩:=h
 refine cB (λenv' st'=>∃(t:lL),∃(w:Nat),V t=some r∧Sub [(3, .os 2 0)] env'∧SLe st' [.rsv, .rsv,oS 0 3 w t,fS w t]) ?_ ?_
 refine Rcl 4 q (Zq (ac bO t0.inits e34 q q Zl) q (Rlc 4 q (cX (λn env' st'=>∃(N:Int),∃(m:lL),∃(C:Nat),f41_l3 t0 V n N m=some r∧Sub [(3, .os 2 0),(52, .l bO t0.inits),(53, .n (List.length t0.inits:Int)),(54, .n N)] env'∧SLe st' [.rsv, .rsv,oS 0 3 C m,fS C m]) (λn=>n) (Int.toNat ((List.length t0.inits:Int) - 0)+1) ⟨0,F,_,h,(Sx q (Sx q (Sx q (Sx q (Sub.nil _))))),⟨Zt,Zt,Zf,Zf,Zt⟩⟩ ?_)))
 rintro n G st1 ⟨N,m,C,h,hsub,hst⟩
 rcases n with _|n
 rw[f41_l3] at h;cases h
 rw[f41_l3] at h
 refine WC.sub hsub (WC.weak hst ?_)
 refine Rcc 6 q (Ci h q (λh=>?_) λh=>?_)
 refine Rcl 6 q (Ix h e34 eW q Zl q q λe _ h=>(Rl 1 q (Al vI q (sS Z6 vW Z2 (Rlc 2 q ?_)))))
 obtain⟨O,I,h⟩:=ab h
 obtain⟨bb,W,h⟩:=ab h
 apply RT [_,_,_,_,_,_,_,_,_,_, .u] [4,10] [[.rsv, .rsv, .os 42 1 0 (List.set (bt 3 (C+1) (List.length m)) (Int.toNat e.o) [.os 5 0]), .fam 2 1 (C+1) (bi E2 (List.set m (Int.toNat e.o) [])), .row 140 [.n e.o, .n e.slot, .n e.v],uS 0 O],[.rsv, .rsv, .os 42 1 0 (List.set (bt 3 (C+1) (List.length m)) (Int.toNat e.o) [.os 5 0]), .fam 2 1 (C+1) (bi E2 (List.set m (Int.toNat e.o) [])), .row 140 [.n e.o, .n e.slot, .n e.v], .os 2 1 0 (eM E2 (List.set O (Int.toNat e.slot) e.v))]] [p01 3,p01 8,p10 1,p20 0 2,p10 3,u01 8,u10 5,u01 8,u10 7,q20 4 6 1,q20 9 8 1] kR kR q q
 refine Y3 ?_
 refine zo (λ_=>Zq (bZ e62 q q q (ae I) (cD I)) q (Zd q q q)) ?_
 refine zo (λ_=>dK (fT (L:=m) (x:=O) (i:=e.o) 2 3 q q q I) (Zq (gt (i:=e.o) q q a42 (bm I)) q (Zd q q q))) ?_
 refine X2d ?_
 refine zo (λ_=>Zq (iX e42 q q q W) q (Zd q q q)) ?_
 exact zo (λ_=>WL.s0 (cF (R:=E2) (k:=1) (i:=e.slot) (fo:=0) e.v q q q q Zl q q q s2 q (λ_=>q) W q q) (Zw q) q (aJ q q)) Zt
 exact mM (fU (L0:=m) (x':=(List.set O (Int.toNat e.slot) e.v)) 2 3 5 q q q q q (bm I)) (Rxx 6 q (WE.drop 4 (env':=[(3, .os 2 0),(52, .l bO t0.inits),(53, .n (List.length t0.inits:Int)),(54, .n (IntKind.i64.wrap (N+1)))]) Sb q Kv (Nat.le_trans (Nat.le_of_eq hmm) (nbT q)) (Fn3 h)))
 exact Rcx 4 q (En2 h)
 rintro G st1 ⟨t,w,h,hsub,hst⟩
 subst a1
 dsimp only at h
 refine WC.sub hsub (WC.weak hst ?_)
 refine Rcx 7 q ?_
 obtain rfl:=Oi h
 exact fM (st1:=[.rsv, .rsv,oS 0 3 w t,fS w t]) [2,3] (.os 0 0) [oS 0 1 w t,fS w t] (λi=>List.getD [0,w] i 0) (λi=>List.getD [vo,vf] i 0) (rs1 q (ap q)) q Zl ⟨OLe.refl _,OLe.refl _,OLe.refl _,OLe.refl _,Zt⟩ dC (Rg (Rf q)) ⟨q,q,Zt⟩ Kv q hmm q q ⟨q,q,Zt⟩ q (bM (lU _ _ _ _ _ _ _ _ q) (bM (jf _ _ _ _ _ _ _ _) q)) (by simp[AV.rv,AV.rvs]) ⟨q,q⟩

theorem f40n_c{s0:lO}{v0:Nat}{r:lO}(h:f40n s0=some r):Ctr prog 40 [.l br s0] [.rsv] (cO 1 (λr' new=>r'= .os 0 v0∧new=[.os 101 5 v0 (eM dz r)])):=by
 unfold f40n at h
 replace h:=aD h
 obtain⟨hg,h⟩:=h
 obtain rfl:=Oi h
 refine cI func40 λ_ _ _ hmm=>?_
 refine Rcl 9 q (ir false q underlying33 q Zl (Zw q) q λb hb=>?_)
 refine Rlc 2 q (eo q (λhc=>?_) λhc=>?_)
 have a:=hb (by cases b<;>first|rfl|cases hc)
 have c:s0=[]:=by cases s0<;>first|rfl|cases a
 subst c
 exact Rcx 7 q (mM (nu 2 101 5 q) (fM (st1:=[.rsv, .os 101 5 0 (eM dz ([]:lO))]) [1] (.os 0 0) [.os 101 5 0 (eM dz ([]:lO))] (λi=>List.getD [0] i 0) (λi=>List.getD [v0] i 0) (rs1 q (ap q)) q Zl ⟨OLe.refl _,OLe.refl _,Zt⟩ dC (Ro q) ⟨q,Zt⟩ Kv q hmm q q ⟨q,Zt⟩ q (bM (jF _ _ _ _ _ _ _ _) q) (by simp[AV.rv]) ⟨q,q⟩))
 exact Rcl 4 q (WL.s (((ib l33).b).does) (Zw q) q q (Rl 1 q (WL.s (db dz ([]:lO) s0 l33 nJ q dC q q q q (dc Zl bD λ_=>q) (λ_=>q) (λ_=>q) hg) (Zw q) q q (Rlx 4 q (fM (st1:=[.rsv, .os 101 5 (0+1) (eM dz (([]:lO)++s0))]) [1] (.os 0 (0+1)) [.os 101 5 (0+1) (eM dz (([]:lO)++s0))] (λi=>List.getD [(0+1)] i 0) (λi=>List.getD [v0] i 0) (rs1 q (ap q)) q Zl ⟨OLe.refl _,OLe.refl _,Zt⟩ dC (Ro q) ⟨q,Zt⟩ Kv q hmm q q ⟨q,Zt⟩ q (bM (jF _ _ _ _ _ _ _ _) q) (by simp[AV.rv]) ⟨q,q⟩)))))

theorem f10_c{t0:aj}{w:lI}{vo:Nat}{vf:Nat}{vu:Nat}{r:Int×lN×lH×lO×Int×lI×lL×lI}(h:f10 t0 w=some r):Ctr prog 10 [.d (.ag (R38 t0)), .l E2 w] [.rsv, .rsv, .rsv, .rsv] (cO 4 (λr' new=>r'= .tu [.pt 0 0, .d (.i .i64 r.1)]∧new=[.row 90 (mR r.2.1 r.2.2.1 r.2.2.2.1 r.2.2.2.2.1 1 vo r.2.2.2.2.2.1 3 vu), .os 42 1 vo (bt 2 vf (List.length r.2.2.2.2.2.2.1)), .fam 2 1 vf (bi E2 r.2.2.2.2.2.2.1), .os 2 1 vu (eM E2 r.2.2.2.2.2.2.2)])):=by
 unfold f10 at h
 refine cI func10 λ_ _ _ hmm=>?_
 refine Rcl 2 q (Bd q q (Zs _) q (Rll 8 q ?_))
 obtain⟨K,B,h⟩:=ab h
 refine wF Z4 (f37_c B) Lw Z3 (Rlc 3 q (Ci h q (λh=>?_) λh=>?_))
 refine Rcx 8 q ?_
 cases h
 refine Rcc 3 q (mP dF (mP dF (mP dF ?_)))
 obtain⟨e,C,h⟩:=ab h
 obtain⟨f,E,h⟩:=ab h
 obtain⟨g,F,h⟩:=ab h
 obtain⟨a,G,h⟩:=ab h
 obtain⟨j,H,h⟩:=ab h
 apply RT [_,_,_,_,_,_,_,_,_,_,_,_,_,_,_,_,_,_] [8,12,16] [[.rsv, .rsv, .rsv, .rsv, .os 101 5 0 (eM dz g), .rsv, .rsv],[.rsv, .rsv, .rsv, .rsv, .os 101 5 0 (eM dz g),oS 0 6 0 a,fS 0 a],[.rsv, .rsv, .rsv, .rsv, .os 101 5 0 (eM dz g),oS 0 6 0 a,fS 0 a, .row 90 [.l E45 e, .l bq f, .os 4 0, .n t0.excs, .os 5 0, .l E2 j,sN]]] [p01 2,p10 0,p10 1,p01 2,p10 3,p10 4,p01 2,p10 6,p10 7,([],[2],[0,1,2]),([9],[],[0,1,2]),u01 2,q10 11 1,([],[1],[0,1,2]),q10 13 2,([2,5,8,10,12,14],[],[2]),q10 15 2,q10 16 3] kR kR q q
 refine Y2 ?_
 refine zo (λ_=>wF Z4 (f38_c C) Lw Z3 (Zd q q q)) ?_
 refine Y2 ?_
 refine zo (λ_=>wF Z4 (f39_c E) Lw Z3 (Zd q q q)) ?_
 refine Y2 ?_
 refine zo (λ_=>?_) ?_
 refine WL.wing [4] q q q q (f40n_c F (v0:=0)) Lw q dC (Re q) ⟨q,Zt⟩ q q (Zw q) q q (λr' new hS=>?_)
 obtain⟨rfl,rfl⟩:=hS
 refine⟨_,_,q,(Ro q),q,Kv,?_⟩
 exact Zd q q q
 refine X3b ?_
 refine X2a ?_
 refine zo (λ_=>?_) ?_
 refine WL.wing [5,6] q q q q (f41_c G (vo:=0) (vf:=0)) Lw q dC (Re (Re q)) ⟨q,q,Zt⟩ q q (Zw q) q q (λr' new hS=>?_)
 obtain⟨rfl,rfl⟩:=hS
 refine⟨_,_,q,(Rg (Rf q)),q,Kv,?_⟩
 exact Zd q q q
 refine X3a ?_
 refine zo (λ_=>wF Z4 (f42_c H) Lw Z3 (Zd q q q)) ?_
 refine zo (λ_=>Zq (lu p90 z90 q q) q (Zd q q q)) ?_
 refine zo (λ_=>Bx q q q (Zd q q q)) ?_
 exact Y1 Zt
 refine Rxc 1 q (Jn1 (λ_=> [(6, .pt 7 0)]) (λm=> [.rsv, .rsv, .rsv, .rsv, .os 101 5 0 (eM dz m),oS 0 6 0 a,fS 0 a, .row 90 [.l E45 e, .l bq f, .os 4 0, .n t0.excs, .os 5 0, .l E2 j,sN]]) h (λI h=>?_) λm h=>?_)
 refine Rcl 6 q (Zq (d8 (ba dz) g e33 q q q) q (Rlc 4 q (Ln2 (λp _=> [(6, .pt 7 0),(32, .n (List.length g:Int)),(33, .n p)]) (λ_ t=> [.rsv, .rsv, .rsv, .rsv, .os 101 5 0 (eM dz t),oS 0 6 0 a,fS 0 a, .row 90 [.l E45 e, .l bq f, .os 4 0, .n t0.excs, .os 5 0, .l E2 j,sN]]) (f10_l1 g I) h (λ_ _ h=>by rw[f10_l1] at h;cases h) λn p t h=>?_)))
 rw[f10_l1] at h
 refine Rcc 6 q (Ci h q (λh=>?_) λh=>?_)
 refine Rcc 10 q ?_
 obtain⟨L,x,h⟩:=ab h
 obtain⟨y,J,h⟩:=ab h
 obtain⟨c,A,h⟩:=ab h
 apply RT [_,_,_,_,_,_,_,_,_,_,_,_,_,_,_,_, .u] [16] [[.rsv, .rsv, .rsv, .rsv, .os 101 5 0 (eM dz (List.set t (Int.toNat p) (Obj.mk c.size c.lo c.hi c.ptr y))),oS 0 6 0 a,fS 0 a, .row 90 [.l E45 e, .l bq f, .os 4 0, .n t0.excs, .os 5 0, .l E2 j,sN]]] [p01 6,p10 0,p10 1,p10 2,p01 7,p01 6,p10 5,p10 6,p10 7,p01 7,p20 8 9,p10 10,p10 11,p10 12,p20 3 4,p10 14,p20 15 13] kR kR q q
 refine Y9 ?_
 refine Y1 ?_
 refine zo (λ_=>Zq (iX e33 q q q x) q (Zd q q q)) ?_
 refine zo (λ_=>Zq (ek f101_4 q q) q (Zd q q q)) ?_
 refine zo (λ_=>Zq (fx (fo:=4) q q q a96 (λ_=>q) x q) q (Zd q q q)) ?_
 refine zo (λ_=>wF Z4 (f43_c J) Lw Z3 (Zd q q q)) ?_
 refine zo (λ_=>Zq (iX e33 q q q A) q (Zd q q q)) ?_
 refine zo (λ_=>Zq (ek f101_4 q q) q (Zd q q q)) ?_
 exact zo (λ_=>WL.s0 (cF (R:=dz) (k:=5) (i:=p) (fo:=4) (Obj.mk c.size c.lo c.hi c.ptr y) q q q q Zl q q q s96 q (λ_=>q) A q q) (Zw q) q (aJ q q)) Zt
 exact Rxx 6 q (Fn2 h)
 exact Rcx 4 q (En1 h)
 refine Rcc 1 q (WC.nil_cell 7 6 2 1 q q (Rcx 7 q ?_))
 refine WE.freezeX [] [(7,2)] 4 _ q (al bD _) Zt ⟨_,_,q,q,Zt⟩ ?_
 obtain rfl:=Oi h
 exact fM (st1:=[.rsv, .rsv, .rsv, .rsv, .z,oS 0 6 0 a,fS 0 a, .row 90 (mR e f m t0.excs 5 0 j 8 0), .os 2 1 0 (eM E2 ([]:lI))]) [7,5,6,8] (.tu [.pt 0 0, .d (.i .i64 0)]) [.row 90 (mR e f m t0.excs 1 0 j 3 0),oS 0 2 0 a,fS 0 a, .os 2 1 0 (eM E2 ([]:lI))] (λi=>List.getD [0,0,0,0] i 0) (λi=>List.getD [0,vo,vf,vu] i 0) (rs2 q (ap q) (ap q)) q (Le.tu Lw) Tv dC (Re (Rg (Rf (Ro q)))) ⟨q,q,q,q,Zt⟩ Kv q hmm q q ⟨Zt,q,q,q,Zt⟩ q (bM (by simp[AO.rv,AV.rv]) (bM (lU _ _ _ _ _ _ _ _ q) (bM (jf _ _ _ _ _ _ _ _) (bM (jF _ _ _ _ _ _ _ _) q)))) (by simp[AV.rv,AV.rvs]) ⟨q,q⟩

theorem f10b_c{t0:aj}{a:lI}{r:Unit×Int}(h:f10b t0 a=some r):Pu prog 10 [.ag (R38 t0), .sl (List.map E2 a)] (.tu [.v (nilOf r.1), .i .i64 r.2]):=by
 unfold f10b at h
 refine fI func10 λ_ _=>?_
 refine Rcl 2 q (Bd q q (Zs _) q (Rll 8 q ?_))
 obtain⟨d,c,h⟩:=ab h
 refine wF Z4 (f37_c c) Lw Z3 (Rlc 3 q (Ci h q (λh=>?_) λh=>?_))
 exact Rcx 8 q (FA h)
 refine Rcc 3 q ?_
 cases h

theorem f42mn_c{s0:lL}{j0:Int}{v0 v1:Nat}{r:lI}(h:f42mn s0 j0=some r):Ctr prog 42 [.osf 0 (Int.toNat j0) v0] [fS v0 s0, .rsv] (cO 2 (λr' new=>r'= .os 1 v1∧new=[fS v0 s0,uS v1 r])):=by
 unfold f42mn at h
 obtain⟨M,hM,h⟩:=ab h
 replace h:=aD h
 obtain⟨hg,h⟩:=h
 obtain rfl:=Oi h
 refine cI func42 λ_ _ _ hmm=>?_
 refine Rcl 9 q (nF underlying42 q q (bd hM) (Zw q) q λb hb=>?_)
 refine Rlc 2 q (eo q (λhc=>?_) λhc=>?_)
 have a:=hb hc
 have c:M=[]:=by cases M<;>first|rfl|cases a
 subst c
 exact Rcx 7 q (mM (nu 2 2 1 q) (fN (st1:=[fS v0 s0, .rsv, .os 2 1 0 (eM E2 ([]:lI))]) [0,2] [0] (.os 1 0) [fS v0 s0, .os 2 1 0 (eM E2 ([]:lI))] (λi=>List.getD [v0,0] i 0) (λi=>List.getD [v0,v1] i 0) ⟨q,Zt⟩ (rs1 q (ap q)) q Zl ⟨OLe.refl _,OLe.refl _,OLe.refl _,Zt⟩ dC (Rf (Ro q)) ⟨q,q,Zt⟩ Kv q hmm q q ⟨q,q,Zt⟩ q (bM (jf _ _ _ _ _ _ _ _) (bM (jF _ _ _ _ _ _ _ _) q)) (by simp[AV.rv]) ⟨q,q⟩))
 exact Rcl 4 q (WL.s (((ib l42).b).does) (Zw q) q q (Rl 1 q (WL.s (db E2 ([]:lI) M l42 z2 q dC q q q q (Src.mem q (bd hM)) (λ_=>q) (λ_=>q) hg) (Zw q) q q (Rlx 4 q (fN (st1:=[fS v0 s0, .rsv, .os 2 1 (0+1) (eM E2 (([]:lI)++M))]) [0,2] [0] (.os 1 (0+1)) [fS v0 s0, .os 2 1 (0+1) (eM E2 (([]:lI)++M))] (λi=>List.getD [v0,(0+1)] i 0) (λi=>List.getD [v0,v1] i 0) ⟨q,Zt⟩ (rs1 q (ap q)) q Zl ⟨OLe.refl _,OLe.refl _,OLe.refl _,Zt⟩ dC (Rf (Ro q)) ⟨q,q,Zt⟩ Kv q hmm q q ⟨q,q,Zt⟩ q (bM (jf _ _ _ _ _ _ _ _) (bM (jF _ _ _ _ _ _ _ _) q)) (by simp[AV.rv]) ⟨q,q⟩)))))

theorem f10o_c{iN:lI}{t0:aj}{vo:Nat}{vf:Nat}{vu:Nat}{vi:Nat}{r:Int×lN×lH×lO×Int×lI×lL×lI}(h:f10o iN t0=some r):Ctr prog 10 [.d (.ag (R38 t0)), .os 4 vi] [.rsv, .rsv, .rsv, .rsv,uS vi iN] (cO 5 (λr' new=>r'= .tu [.pt 0 0, .d (.i .i64 r.1)]∧new=[.row 90 (mR r.2.1 r.2.2.1 r.2.2.2.1 r.2.2.2.2.1 1 vo r.2.2.2.2.2.1 3 vu), .os 42 1 vo (bt 2 vf (List.length r.2.2.2.2.2.2.1)), .fam 2 1 vf (bi E2 r.2.2.2.2.2.2.1), .os 2 1 vu (eM E2 r.2.2.2.2.2.2.2),uS vi iN])):=by
 unfold f10o at h
 refine cI func10 λ_ _ _ hmm=>?_
 refine Rcl 2 q (Bd q q (Zs _) q (Rll 8 q ?_))
 obtain⟨J,A,h⟩:=ab h
 refine wF Z4 (f37_c A) Lw Z3 (Rlc 3 q (Ci h q (λh=>?_) λh=>?_))
 refine Rcx 8 q ?_
 cases h
 refine Rcc 3 q (mP dF (mP dF (mP dF ?_)))
 obtain⟨e,B,h⟩:=ab h
 obtain⟨f,C,h⟩:=ab h
 obtain⟨g,E,h⟩:=ab h
 obtain⟨a,F,h⟩:=ab h
 obtain⟨j,G,h⟩:=ab h
 apply RT [_,_,_,_,_,_,_,_,_,_,_,_,_,_,_,_,_,_] [8,12,16] [[.rsv, .rsv, .rsv, .rsv,uS vi iN, .os 101 5 0 (eM dz g), .rsv, .rsv],[.rsv, .rsv, .rsv, .rsv,uS vi iN, .os 101 5 0 (eM dz g),oS 0 7 0 a,fS 0 a],[.rsv, .rsv, .rsv, .rsv,uS vi iN, .os 101 5 0 (eM dz g),oS 0 7 0 a,fS 0 a, .row 90 [.l E45 e, .l bq f, .os 5 0, .n t0.excs, .os 6 0, .l E2 j,sN]]] [p01 2,p10 0,p10 1,p01 2,p10 3,p10 4,p01 2,p10 6,p10 7,([],[2],[0,1,2]),([9],[],[0,1,2]),u01 2,q10 11 1,([],[1],[0,1,2]),q10 13 2,([2,5,8,10,12,14],[],[2]),q10 15 2,q10 16 3] kR kR q q
 refine Y2 ?_
 refine zo (λ_=>wF Z4 (f38_c B) Lw Z3 (Zd q q q)) ?_
 refine Y2 ?_
 refine zo (λ_=>wF Z4 (f39_c C) Lw Z3 (Zd q q q)) ?_
 refine Y2 ?_
 refine zo (λ_=>?_) ?_
 refine WL.wing [5] q q q q (f40n_c E (v0:=0)) Lw q dC (Re q) ⟨q,Zt⟩ q q (Zw q) q q (λr' new hS=>?_)
 obtain⟨rfl,rfl⟩:=hS
 refine⟨_,_,q,(Ro q),q,Kv,?_⟩
 exact Zd q q q
 refine X3b ?_
 refine X2a ?_
 refine zo (λ_=>?_) ?_
 refine WL.wing [6,7] q q q q (f41_c F (vo:=0) (vf:=0)) Lw q dC (Re (Re q)) ⟨q,q,Zt⟩ q q (Zw q) q q (λr' new hS=>?_)
 obtain⟨rfl,rfl⟩:=hS
 refine⟨_,_,q,(Rg (Rf q)),q,Kv,?_⟩
 exact Zd q q q
 refine X3a ?_
 refine zo (λ_=>?_) ?_
 refine WL.wing [4] q q q q (f42c_c G) Lw q dC (Ro q) ⟨q,Zt⟩ Kv q (Zw q) q q (λr' new hS=>?_)
 obtain⟨rfl,rfl⟩:=hS
 refine⟨_,_,q,(Ro q),q,Kv,?_⟩
 exact Zd q q q
 refine zo (λ_=>Zq (lu p90 z90 q q) q (Zd q q q)) ?_
 refine zo (λ_=>Bx q q q (Zd q q q)) ?_
 exact Y1 Zt
 refine Rxc 1 q (Jn1 (λ_=> [(6, .pt 8 0)]) (λm=> [.rsv, .rsv, .rsv, .rsv,uS vi iN, .os 101 5 0 (eM dz m),oS 0 7 0 a,fS 0 a, .row 90 [.l E45 e, .l bq f, .os 5 0, .n t0.excs, .os 6 0, .l E2 j,sN]]) h (λH h=>?_) λm h=>?_)
 refine Rcl 6 q (Zq (d8 (ba dz) g e33 q q q) q (Rlc 4 q (Ln2 (λp _=> [(6, .pt 8 0),(32, .n (List.length g:Int)),(33, .n p)]) (λ_ t=> [.rsv, .rsv, .rsv, .rsv,uS vi iN, .os 101 5 0 (eM dz t),oS 0 7 0 a,fS 0 a, .row 90 [.l E45 e, .l bq f, .os 5 0, .n t0.excs, .os 6 0, .l E2 j,sN]]) (f10o_l1 g H) h (λ_ _ h=>by rw[f10o_l1] at h;cases h) λn p t h=>?_)))
 rw[f10o_l1] at h
 refine Rcc 6 q (Ci h q (λh=>?_) λh=>?_)
 refine Rcc 10 q ?_
 obtain⟨K,w,h⟩:=ab h
 obtain⟨x,I,h⟩:=ab h
 obtain⟨c,y,h⟩:=ab h
 apply RT [_,_,_,_,_,_,_,_,_,_,_,_,_,_,_,_, .u] [16] [[.rsv, .rsv, .rsv, .rsv,uS vi iN, .os 101 5 0 (eM dz (List.set t (Int.toNat p) (Obj.mk c.size c.lo c.hi c.ptr x))),oS 0 7 0 a,fS 0 a, .row 90 [.l E45 e, .l bq f, .os 5 0, .n t0.excs, .os 6 0, .l E2 j,sN]]] [p01 6,p10 0,p10 1,p10 2,p01 7,p01 6,p10 5,p10 6,p10 7,p01 7,p20 8 9,p10 10,p10 11,p10 12,p20 3 4,p10 14,p20 15 13] kR kR q q
 refine Y9 ?_
 refine Y1 ?_
 refine zo (λ_=>Zq (iX e33 q q q w) q (Zd q q q)) ?_
 refine zo (λ_=>Zq (ek f101_4 q q) q (Zd q q q)) ?_
 refine zo (λ_=>Zq (fx (fo:=4) q q q a96 (λ_=>q) w q) q (Zd q q q)) ?_
 refine zo (λ_=>wF Z4 (f43_c I) Lw Z3 (Zd q q q)) ?_
 refine zo (λ_=>Zq (iX e33 q q q y) q (Zd q q q)) ?_
 refine zo (λ_=>Zq (ek f101_4 q q) q (Zd q q q)) ?_
 exact zo (λ_=>WL.s0 (cF (R:=dz) (k:=5) (i:=p) (fo:=4) (Obj.mk c.size c.lo c.hi c.ptr x) q q q q Zl q q q s96 q (λ_=>q) y q q) (Zw q) q (aJ q q)) Zt
 exact Rxx 6 q (Fn2 h)
 exact Rcx 4 q (En1 h)
 refine Rcc 1 q (WC.nil_cell 8 6 2 1 q q (Rcx 7 q ?_))
 refine WE.freezeX [] [(8,2)] 5 _ q (al bD _) Zt ⟨_,_,q,q,Zt⟩ ?_
 obtain rfl:=Oi h
 exact fN (st1:=[.rsv, .rsv, .rsv, .rsv,uS vi iN, .z,oS 0 7 0 a,fS 0 a, .row 90 (mR e f m t0.excs 6 0 j 9 0), .os 2 1 0 (eM E2 ([]:lI))]) [8,6,7,9,4] [4] (.tu [.pt 0 0, .d (.i .i64 0)]) [.row 90 (mR e f m t0.excs 1 0 j 3 0),oS 0 2 0 a,fS 0 a, .os 2 1 0 (eM E2 ([]:lI)),uS vi iN] (λi=>List.getD [0,0,0,0,vi] i 0) (λi=>List.getD [0,vo,vf,vu,vi] i 0) ⟨q,Zt⟩ (rs2 q (ap q) (ap q)) q (Le.tu Lw) Tv dC (Re (Rg (Rf (Ro (Ro q))))) ⟨q,q,q,q,q,Zt⟩ Kv q hmm q q ⟨Zt,q,q,q,q,Zt⟩ q (bM (by simp[AO.rv,AV.rv]) (bM (lU _ _ _ _ _ _ _ _ q) (bM (jf _ _ _ _ _ _ _ _) (bM (jF _ _ _ _ _ _ _ _) (bM (jF _ _ _ _ _ _ _ _) q))))) (by simp[AV.rv,AV.rvs]) ⟨q,q⟩

theorem f28o_c{mI:lN}{mH:lH}{mO:lO}{mE:Int}{mN:lI}{mS:lL}{mU:lI}{vo:Nat}{vf:Nat}{vu:Nat}{vo2:Nat}{vf2:Nat}{r:lL}(h:f28o mI mH mO mE mN mS mU=some r):Ctr prog 28 [.pt 0 0] [.row 90 (mR mI mH mO mE 1 vo mN 3 vu),oS vo 2 vf mS,fS vf mS,uS vu mU, .rsv, .rsv] (cO 6 (λr' new=>r'= .os 4 vo2∧new=[.row 90 (mR mI mH mO mE 1 vo mN 3 vu),oS vo 2 vf mS,fS vf mS,uS vu mU,oS vo2 5 vf2 r,fS vf2 r])):=by
 unfold f28o at h
 refine cI func28 λ_ _ _ hmm=>?_
 refine Rcl 9 q ?_
 obtain⟨B,t,h⟩:=ab h
 refine WL.wing [0,1,2,3] q q q q (f47_c t) Lw q dC (Re (Rg (Rf (Ro q)))) ⟨q,q,q,q,Zt⟩ Kv q (Zw q) q q (λr' new hS=>?_)
 obtain⟨rfl,rfl⟩:=hS
 refine⟨_,_,q,(Re (Rg (Rf (Ro q)))),q,Kv,?_⟩
 refine St q (Rlc 2 q (Ci h q (λh=>?_) λh=>?_))
 refine Rcx 7 q ?_
 cases h
 refine Rcl 8 q (Zq (dM e62 q q q) q ?_)
 replace h:=aD h
 obtain⟨w,h⟩:=h
 refine WL.s ((NewOs.b (eh l62 z42 q (Nat.succ_pos _) q q w)).does) (Zw q) q q (dK (mh E2 6 2 1 q) (Rlc 3 q ?_))
 replace h:=aC h
 obtain⟨m,x,h⟩:=h
 refine cB (λenv' st'=>∃(a:lL),∃(c:Nat),m a=some r∧Sub [(3, .os 6 0)] env'∧SLe st' [.row 90 (mR mI mH mO mE 1 vo mN 3 vu),oS vo 2 vf mS,fS vf mS,uS vu mU, .rsv, .rsv,oS 0 7 c a,fS c a]) ?_ ?_
 refine Rcl 6 q (Zq (dM e62 q q q) q (Rlc 4 q (cX (λn env' st'=>∃(d:Int),∃(e:lL),∃(g:Nat),f28o_l1 mS m n d e=some r∧Sub [(3, .os 6 0),(17, .os 1 vo),(18, .n (List.length mS:Int)),(19, .n d)] env'∧SLe st' [.row 90 (mR mI mH mO mE 1 vo mN 3 vu),oS vo 2 vf mS,fS vf mS,uS vu mU, .rsv, .rsv,oS 0 7 g e,fS g e]) (λn=>n) (Int.toNat ((List.length mS:Int) - 0)+1) ⟨0,(List.replicate (Int.toNat (List.length mS:Int)) ([]:lI)),_,h,(Sx q (Sx q (Sx q (Sx q (Sub.nil _))))),⟨Zp,Zf,Zf,Zf,Zt,Zt,Zf,Zf,Zt⟩⟩ ?_)))
 rintro n y st1 ⟨d,e,g,h,hsub,hst⟩
 rcases n with _|n
 rw[f28o_l1] at h;cases h
 rw[f28o_l1] at h
 refine WC.sub hsub (WC.weak hst ?_)
 refine Rcc 6 q (Ci h q (λh=>?_) λh=>?_)
 refine Rcl 7 q ?_
 obtain⟨C,k,h⟩:=ab h
 refine Zq (bZ e62 q q q (ae k) (cD k)) q (Zq (ct (i:=d) q q a42 (bm k)) q (Rll 8 q (dK dF ?_)))
 obtain⟨p,A,h⟩:=ab h
 refine WL.wing [2,8] q q q q (f42mn_c A (v0:=vf) (v1:=0)) Lw q dC (Rf (Re q)) ⟨q,q,Zt⟩ Kv q (Zw q) q q (λr' new hS=>?_)
 obtain⟨rfl,rfl⟩:=hS
 refine⟨_,_,q,(Rf (Ro q)),q,Kv,?_⟩
 refine St q ?_
 obtain⟨E,f,h⟩:=ab h
 exact Zq (bZ e62 q q q (ae f) (cD f)) q (WL.s0 (kW (i:=d) (n:=List.length e) q q q q s42 (bm f)) (Zw q) q (dK (gF (L:=e) (_x:=[]) (x':=p) (j:=Int.toNat d) 6 7 8 (List.set e (Int.toNat d) p) q q q q q (bm f) q) (Rlx 7 q (WE.drop 8 (env':=[(3, .os 6 0),(17, .os 1 vo),(18, .n (List.length mS:Int)),(19, .n (IntKind.i64.wrap (d+1)))]) Sb q Kv (Nat.le_trans (Nat.le_of_eq hmm) (nbT q)) (Fn3 h)))))
 exact Rcx 4 q (En2 h)
 rintro y st1 ⟨a,c,h,hsub,hst⟩
 subst x
 dsimp only at h
 refine WC.sub hsub (WC.weak hst ?_)
 refine Rcx 7 q ?_
 obtain rfl:=Oi h
 exact fN (st1:=[.row 90 (mR mI mH mO mE 1 vo mN 3 vu),oS vo 2 vf mS,fS vf mS,uS vu mU, .rsv, .rsv,oS 0 7 c a,fS c a]) [0,1,2,3,6,7] [0,1,2,3] (.os 4 0) [.row 90 (mR mI mH mO mE 1 vo mN 3 vu),oS vo 2 vf mS,fS vf mS,uS vu mU,oS 0 5 c a,fS c a] (λi=>List.getD [0,vo,vf,vu,0,c] i 0) (λi=>List.getD [0,vo,vf,vu,vo2,vf2] i 0) ⟨q,q,q,q,Zt⟩ (rs1 q (ap q)) q Zl Tv dC (Re (Rg (Rf (Ro (Rg (Rf q)))))) ⟨q,q,q,q,q,q,Zt⟩ Kv q hmm q q ⟨Zt,q,q,q,q,q,Zt⟩ q (bM (by simp[AO.rv,AV.rv]) (bM (lU _ _ _ _ _ _ _ _ q) (bM (jf _ _ _ _ _ _ _ _) (bM (jF _ _ _ _ _ _ _ _) (bM (lU _ _ _ _ _ _ _ _ q) (bM (jf _ _ _ _ _ _ _ _) q)))))) (by simp[AV.rv,AV.rvs]) ⟨q,q⟩

theorem f66_c{x0:aB}:Pu prog 66 [.ag (R45 x0)] (.ag (R38 (f66 x0))):=by
 generalize h:f66 x0=r
 unfold f66 at h
 refine fI func66 λ_ _=>?_
 refine Rcl 2 q (Bd q q (Zs _) q (Al z38 q (Rll 5 q (Zq (aa p45 z45 q q) q (Zq (aa p45 z45 q q) q (WL.s ((NewOs.b (af l23 z45 q dC dC q q q dC)).does) (Zw q) q q (Zq (aa p108 mW q q) q (WL.s ((NewOs.b (af l29 mW q dC dC q q q dC)).does) (Zw q) q q (Zq (aa p101 nJ q q) q (WL.s ((NewOs.b (NewOs.weak (es':=List.map (ba dz) [(Obj.mk 1 0 9 false [])]) (af l33 nJ q dC dC q q q dC) (by exact⟨⟨Zl,Zl,Zl,Zl,Le.nil,Zt⟩,Zt⟩))).does) (Zw q) q q (Zq (aa p164 t9 q q) q (WL.s ((NewOs.b (NewOs.weak (es':=List.map (ba wL) [(eJ.mk 0 [])]) (af l35 t9 q dC dC q q q dC) (by exact⟨⟨Zl,Le.nil,Zt⟩,Zt⟩))).does) (Zw q) q q (Zq (aa p27 z27 q q) q ?_)))))))))))))
 refine WL.s ((NewOs.b (NewOs.weak (es':=List.map (ba R27) [(eL.mk 0 0 [] 0)]) (af l28 z27 q dC dC q q q dC) (by exact⟨⟨Zl,Zl,Le.nil,Zl,Zt⟩,Zt⟩))).does) (Zw q) q q (Zq (lu p38 z38 q q) q (WL.s0 (tH q q q q q q s38 q q) (Zw q) q (St q (Rlx 3 q ?_))))
 refine WE.freezeX [6] [(0,0)] 1 _ q (al dr [x0,(aB.mk 57 0 0 0 0 0 0),(aB.mk 57 0 0 0 0 0 0)]) ⟨q,Zt⟩ ⟨_,_,q,q,Zt⟩ ?_
 refine WE.freezeX [8] [(0,1)] 2 _ q (al eK [(aG.mk 0 1 2 false)]) ⟨q,Zt⟩ ⟨_,_,q,q,Zt⟩ ?_
 refine WE.freezeX [10] [(0,5)] 3 _ q (al bD [(Obj.mk 1 0 9 false [])]) ⟨q,Zt⟩ ⟨_,_,q,q,Zt⟩ ?_
 refine WE.freezeX [14] [(0,8)] 5 _ q (al jv [(eL.mk 0 0 [] 0)]) ⟨q,Zt⟩ ⟨_,_,q,q,Zt⟩ ?_
 refine WE.freezeX [12] [(0,9)] 4 _ q (al j6 [(eJ.mk 0 [])]) ⟨q,Zt⟩ ⟨_,_,q,q,Zt⟩ ?_
 subst h
 exact am (rs1 q (aO q q a38 s38 q)) (ah ⟨Zl,Zl,Le.nil,Le.nil,Le.nil,Zl,Le.nil,Zl,Zl,Zl,Le.nil,Zt⟩)

theorem f35_c{x0:aB}{v1:Int}{r:aq×lA×Int}(h:f35 x0 v1=some r):Pu prog 35 [.ag (R45 x0), .i .i64 v1] (.tu [.ag (R41 r.1), .sl (List.map E58 r.2.1), .i .i64 r.2.2]):=by
 unfold f35 at h
 refine fI func35 λ_ _=>?_
 refine Rcl 2 q (Bd q q (Zs _) q (Al z41 q (Rll 7 q (wF Z4 (f66_c) Lw Z3 (WL.s ((NewOs.b (af l42 z2 q dC dC q q q dC)).does) (Zw q) q q ?_)))))
 refine WL.freezeX [12] [] 1 _ q (al dx [8]) ⟨q,Zt⟩ Zt ?_
 obtain⟨c,g,h⟩:=ab h
 rcases dn c with a|a
 replace h:=dv h a
 refine dK dF (dK dF (dK dF (dK dF ?_)))
 obtain⟨j,d,h⟩:=ab h
 refine WL.wing [2,3,4,5] q q q q (f10_c d (vo:=0) (vf:=0) (vu:=0)) Lw q dC (Re (Re (Re (Re q)))) ⟨q,q,q,q,Zt⟩ q q (Zw q) q q (λr' new hS=>?_)
 obtain⟨rfl,rfl⟩:=hS
 refine⟨_,_,q,(Re (Rg (Rf (Ro q)))),q,Kv,?_⟩
 refine St q (Rl 5 q (Zn (Rcc 7 q (Ci h q (λh=>?_) λh=>?_))))
 refine Rcl 2 q (Zq (aa p41 z41 q q) q (Rl 1 q (sS Z6 s41 Z2 (St q (Rlx 6 q ?_)))))
 obtain rfl:=Oi h
 exact am (rs3 q (aO q q a41 s41 q) (ap q) (ap q)) (aK ⟨(ah (Zs _)),Le.nil,Zl,Zt⟩)
 refine Rcl 6 q (Zq (sC dZ z39 q q) q (Zq (aa p41 z41 q q) q ?_))
 obtain⟨k,e,h⟩:=ab h
 refine WL.wing [2,3,4,5] q q q q (f11_c e) ⟨Zl,(ah (Zs _)),Zt⟩ q dC (Re (Rg (Rf (Ro q)))) ⟨q,q,q,q,Zt⟩ Kv q (Zw q) q q (λr' new hS=>?_)
 obtain⟨i2_35,i3_35,rfl,rfl⟩:=hS
 refine⟨_,_,q,(Re (Rg (Rf (Ro q)))),q,Kv,?_⟩
 refine St q (Rl 3 q (sS Z6 s41 Z2 (St q (Rlx 5 q ?_))))
 obtain rfl:=Oi h
 exact am (rs3 q (aO q q a41 s41 q) (ap q) (ap q)) (aK ⟨(ah (Zs _)),Zl,Zl,Zt⟩)
 replace h:=dw h a
 obtain⟨m,f,h⟩:=ab h
 refine wF Z4 (f10b_c f) Lw Z3 (Rl 5 q (Zn (Rcc 7 q (Ci h q (λh=>?_) λh=>?_))))
 refine Rcl 2 q (Zq (aa p41 z41 q q) q (Rl 1 q (sS Z6 s41 Z2 (St q (Rlx 6 q ?_)))))
 obtain rfl:=Oi h
 exact am (rs3 q (aO q q a41 s41 q) (ap q) (ap q)) (aK ⟨(ah (Zs _)),Le.nil,Zl,Zt⟩)
 refine Rcc 3 q ?_
 cases h

theorem f9_c{r:Bool}(h:f9=some r):Pu prog 9 [] (.b r):=by
 unfold f9 at h
 refine fI func9 λ_ _=>?_
 refine Rcl 7 q (Zq (aa p45 z45 q q) q ?_)
 obtain⟨f,p,h⟩:=ab h
 refine wF Z4 (f35_c p) ⟨(ah (Zs _)),Zl,Zt⟩ Z3 (Rl 4 q (Al z41 q (sS Z6 s41 Z2 (St q (Rll 6 q (Zq (aa p45 z45 q q) q ?_))))))
 obtain⟨J,w,h⟩:=ab h
 refine wF Z4 (f35_c w) ⟨(ah (Zs _)),Zl,Zt⟩ Z3 (Rl 4 q (Al z41 q (sS Z6 s41 Z2 (St q (Rll 6 q (Zq (aa p45 z45 q q) q ?_))))))
 obtain⟨K,x,h⟩:=ab h
 refine wF Z4 (f35_c x) ⟨(ah (Zs _)),Zl,Zt⟩ Z3 (Rl 4 q (Al z41 q (sS Z6 s41 Z2 (St q (Rll 6 q (Zq (aa p45 z45 q q) q ?_))))))
 obtain⟨L,y,h⟩:=ab h
 refine wF Z4 (f35_c y) ⟨(ah (Zs _)),Zl,Zt⟩ Z3 (Rl 4 q (Al z41 q (sS Z6 s41 Z2 (St q (Rll 6 q (Zq (aa p45 z45 q q) q ?_))))))
 obtain⟨M,A,h⟩:=ab h
 refine wF Z4 (f35_c A) ⟨(ah (Zs _)),Zl,Zt⟩ Z3 (Rl 4 q (Al z41 q (sS Z6 s41 Z2 (St q (Rll 6 q (Zq (aa p45 z45 q q) q ?_))))))
 obtain⟨g,B,h⟩:=ab h
 refine wF Z4 (f35_c B) ⟨(ah (Zs _)),Zl,Zt⟩ Z3 (Rl 4 q (Al z41 q (sS Z6 s41 Z2 (St q (Rll 6 q (Zq (aa p45 z45 q q) q ?_))))))
 obtain⟨C,E,h⟩:=ab h
 refine wF Z4 (f35_c E) ⟨(ah (Zs _)),Zl,Zt⟩ Z3 (Rl 4 q (Al z41 q (sS Z6 s41 Z2 (St q (Rll 7 q (Zq (aa p41 z41 q q) q (Zq (lq (xs:=(V41 f.1)) (ys:=[.int .i64 0, .int .i64 0, .int .i64 0, .int .i64 0, .int .i64 0, .int .i64 0, .int .i64 0, .int .i64 0, .int .i64 0, .int .i64 0, .int .i64 0, .int .i64 0, .int .i64 0, .int .i64 0, .int .i64 0, .int .i64 0, .int .i64 2, .int .i64 1, .int .i64 0]) q41 q (ah (Zs _)) q (ah (Zs _)) q q q) q (Rl 1 q ?_))))))))
 apply WL.and 4 (t:=68) (d:=72)
 exact q
 intro N
 exact Rl 1 q (Zy (ac E58 f.2.1 e50 q q Zl) q q q (Rl 2 q (WL.nil ⟨q,[_,_,_,_],q,q,q⟩)))
 exact Rn 4 4
 refine Rl 1 q ?_
 obtain⟨F,G,h⟩:=ab h
 refine Gg 6 73 79 F G (λh=>?_) (λh=>?_) ?_
 refine Rl 1 q ?_
 obtain⟨c,k,h⟩:=ab h
 exact Zy (ai e50 q Zl q (ae k) (az d7 k) q) q q q (Rl 1 q (Zy (aa p58 z58 q q) q q q (Zy (lq (xs:=[.int .i64 c.time, .int .i64 c.task, .int .u8 c.kind, .int .i64 c.a, .int .i64 c.b, .int .i64 c.n]) (ys:=[.int .i64 0, .int .i64 0, .int .u8 5, .int .i64 1, .int .i64 0, .int .i64 0]) q58 q Zl q (ah (Zs _)) q q q) q q q (On 1 6 h))))
 exact On 6 6 h
 refine Rl 1 q ?_
 refine AG 3 80 83 3 3 ?_
 refine Rl 1 q ?_
 refine AG 3 84 87 3 3 ?_
 refine Rl 1 q ?_
 refine AG 3 88 91 3 3 ?_
 refine Rl 1 q ?_
 refine AG 3 92 95 3 3 ?_
 refine Rl 1 q ?_
 refine AG 3 96 99 3 3 ?_
 refine Rll 7 q ?_
 refine AG 3 101 104 3 3 ?_
 refine Rl 1 q ?_
 apply WL.and 5 (t:=105) (d:=110)
 exact q
 intro O
 exact Rl 1 q (Zy (aE dZ q q dC dC) q q q (Zy (cA (off:=0) (n:=16) (λj=> .n (g.1.r j)) q q a2 q dC) q q q (Rl 2 q (WL.nil ⟨q,[_,_,_,_,_],q,q,q⟩))))
 exact Rn 5 5
 refine Rl 1 q ?_
 apply WL.and 4 (t:=111) (d:=115)
 exact q
 intro P
 exact Rl 1 q (Zy (ac E58 g.2.1 e50 q q Zl) q q q (Rl 2 q (WL.nil ⟨q,[_,_,_,_],q,q,q⟩)))
 exact Rn 4 4
 refine Rl 1 q ?_
 obtain⟨H,I,h⟩:=ab h
 refine Gg 6 116 122 H I (λh=>?_) (λh=>?_) ?_
 refine Rl 1 q ?_
 obtain⟨e,m,h⟩:=ab h
 exact Zy (ai e50 q Zl q (ae m) (az d7 m) q) q q q (Rl 1 q (Zy (aa p58 z58 q q) q q q (Zy (lq (xs:=[.int .i64 e.time, .int .i64 e.task, .int .u8 e.kind, .int .i64 e.a, .int .i64 e.b, .int .i64 e.n]) (ys:=[.int .i64 0, .int .i64 0, .int .u8 2, .int .i64 8, .int .i64 0, .int .i64 0]) q58 q Zl q (ah (Zs _)) q q q) q q q (On 1 6 h))))
 exact On 6 6 h
 refine Rl 1 q ?_
 refine AG 3 123 126 3 3 ?_
 refine Rl 1 q ?_
 apply WL.and 5 (t:=127) (d:=132)
 exact q
 intro Q
 exact Rl 1 q (Zy (aE dZ q q dC dC) q q q (Zy (cA (off:=0) (n:=16) (λj=> .n (C.1.r j)) q q a2 q dC) q q q (Rl 2 q (WL.nil ⟨q,[_,_,_,_,_],q,q,q⟩))))
 exact Rn 5 5
 refine Rl 1 q ?_
 refine AG 4 133 137 4 4 ?_
 refine Rl 1 q ?_
 apply WL.and 2 (t:=138) (d:=140)
 exact q
 intro R
 exact WL.fn q q q q (f36_c) Lw (aU q q q) q q (Rl 1 q (WL.nil ⟨q,[_,_],q,q,q⟩))
 exact Rn 2 2
 refine Rl 1 q ?_
 apply WL.and 3 (t:=141) (d:=144)
 exact q
 intro S
 exact WL.fn q q q q (f36_c) Lw (aU q q q) q q (Rl 2 q (WL.nil ⟨q,[_,_,_],q,q,q⟩))
 exact Rn 3 3
 exact Rlx 4 q (FA h)

theorem f34_c{o0:Obj}{v1:Int}{r:Bool}(h:f34 o0 v1=some r):Pu prog 34 [.ag (dz o0), .i .i64 v1] (.b r):=by
 unfold f34 at h
 refine fI func34 λ_ _=>?_
 refine Rcl 2 q (Bd q q (Zs _) q (Rlc 11 q (Ci h q (λh=>?_) λh=>?_)))
 refine Rcl 7 q ?_
 refine AG 5 13 18 5 5 ?_
 exact Rlx 5 q (FA h)
 refine Rcc 2 q (Jn0 [(1, .n v1)] [] h (λc h=>?_) λh=>?_)
 refine Rcc 6 q (Ln1 (λa=> [(1, .n v1),(2, .d (.pc (dz o0))),(5, .n a)]) (λ_=> []) (f34_l1 o0 v1 c) h (λ_ h=>by rw[f34_l1] at h;cases h) λn a h=>?_)
 rw[f34_l1] at h
 refine Rcl 6 q (Zq (ac E3 o0.set_ e96 q q Zl) q (Rlc 3 q (Ci h q (λh=>?_) λh=>?_)))
 refine Rcl 10 q (Ix h e96 fd q Zl q q λe _ h=>(Rlc 5 q (Ci h q (λh=>?_) λh=>?_)))
 exact Rcx 11 q (FA h)
 exact Rcx 8 q (Fn1 h)
 exact Rcx 4 q (En0 h)
 exact Rcx 8 q (FA h)

theorem f133_c{t0:aj}{o1:Obj}{r:Bool}(h:f133 t0 o1=some r):Pu prog 133 [.ag (R38 t0), .ag (dz o1)] (.b r):=by
 unfold f133 at h
 refine fI func133 λ_ _=>?_
 refine Rcl 2 q (Bd q q (Zs _) q (Bd q q (Zs _) q (Rll 10 q ?_)))
 refine OG 4 10 14 4 4 ?_
 refine Rl 1 q ?_
 refine OG 6 15 21 6 6 ?_
 refine Rl 1 q ?_
 apply WL.or 10 (t:=22) (d:=32)
 exact q
 intro B
 refine Rl 4 q ?_
 apply WL.and 5 (t:=26) (d:=31)
 exact q
 intro C
 exact Rl 2 q (Zy (ac E3 o1.set_ e96 q q Zl) q q q (Rl 2 q (WL.nil ⟨q,[_,_,_,_,_],q,q,q⟩)))
 exact Rn 5 5
 exact Rn 1 6
 exact Rn 10 10
 refine Rl 1 q ?_
 apply WL.or 13 (t:=33) (d:=46)
 exact q
 intro E
 refine Rl 3 q ?_
 apply WL.and 9 (t:=36) (d:=45)
 exact q
 intro F
 refine Rl 4 q ?_
 refine OG 4 40 44 4 4 ?_
 exact Rn 1 6
 exact Rn 9 9
 exact Rn 1 5
 exact Rn 13 13
 refine Rlc 2 q (Ci h q (λh=>Rcx 7 q (FA h)) λh=>?_)
 refine Rcc 2 q (Jn0 [] [] h (λg h=>?_) λh=>?_)
 refine Rcc 6 q (Ln1 (λa=> [(2, .d (.pc (R38 t0))),(3, .d (.pc (dz o1))),(5, .n a)]) (λ_=> []) (f133_l1 t0 o1 g) h (λ_ h=>by rw[f133_l1] at h;cases h) λn a h=>?_)
 rw[f133_l1] at h
 refine Rcl 6 q (Zq (ac E3 o1.set_ e96 q q Zl) q (Rlc 3 q (Ci h q (λh=>?_) λh=>?_)))
 refine Rcl 9 q (Ix h e96 fd q Zl q q λG _ h=>(Rll 9 q ?_))
 apply WL.or 6 (t:=61) (d:=67)
 exact q
 intro H
 exact Rl 3 q (Zy (ac br t0.objs e33 q q Zl) q q q (Rl 2 q (WL.nil ⟨q,[_,_,_,_,_,_],q,q,q⟩)))
 exact Rn 6 6
 refine Rl 1 q ?_
 obtain⟨j,k,h⟩:=ab h
 refine Gg 8 68 76 j k (λh=>?_) (λh=>?_) ?_
 exact On 8 8 h
 refine Rl 3 q ?_
 obtain⟨I,c,h⟩:=ab h
 exact Zy (ai e33 q Zl q (ae c) (az bD c) q) q q q (On 4 8 h)
 refine Rl 1 q ?_
 obtain⟨m,p,h⟩:=ab h
 refine Gg 7 77 84 m p (λh=>?_) (λh=>?_) ?_
 exact On 7 7 h
 refine Rl 3 q ?_
 obtain⟨J,e,h⟩:=ab h
 exact Zy (ai e33 q Zl q (ae e) (az bD e) q) q q q (On 3 7 h)
 refine Rl 1 q ?_
 obtain⟨w,x,h⟩:=ab h
 refine Gg 13 85 98 w x (λh=>?_) (λh=>?_) ?_
 exact On 13 13 h
 refine Rl 3 q ?_
 obtain⟨y,A,h⟩:=ab h
 refine Gg 9 88 97 y A (λh=>?_) (λh=>?_) ?_
 refine Rl 4 q ?_
 obtain⟨K,f,h⟩:=ab h
 exact Zy (ai e96 q Zl q (ae f) (az fd f) q) q q q (On 4 9 h)
 exact On 9 9 h
 exact On 1 5 h
 exact Rlc 2 q (Ci h q (λh=>Rcx 11 q (FA h)) λh=>Rcx 8 q (Fn1 h))
 exact Rcx 4 q (En0 h)
 exact Rcx 6 q (FA h)

theorem f134_c{t0:aj}{o1:Int}{a:Int}{c:Int}{r:Bool}(h:f134 t0 o1 a c=some r):Pu prog 134 [.ag (R38 t0), .i .i64 o1, .i .i64 a, .i .i64 c] (.b r):=by
 unfold f134 at h
 refine fI func134 λ_ _=>?_
 refine Rcl 2 q (Bd q q (Zs _) q (Rll 8 q ?_))
 apply WL.and 6 (t:=11) (d:=17)
 exact q
 intro j
 exact Rl 3 q (Zy (ac br t0.objs e33 q q Zl) q q q (Rl 2 q (WL.nil ⟨q,[_,_,_,_,_,_],q,q,q⟩)))
 exact Rn 6 6
 refine Rl 1 q ?_
 refine AG 3 18 21 3 3 ?_
 refine Rl 1 q ?_
 refine AG 3 22 25 3 3 ?_
 refine Rl 1 q ?_
 obtain⟨f,g,h⟩:=ab h
 refine Gg 11 26 37 f g (λh=>?_) (λh=>?_) ?_
 refine Rl 4 q ?_
 obtain⟨k,e,h⟩:=ab h
 exact Zy (ai e33 q Zl q (ae e) (az bD e) q) q q q (On 6 11 h)
 exact On 11 11 h
 exact Rlx 4 q (FA h)

theorem f89_c{t0:aj}{r:Bool}(h:f89 t0=some r):Pu prog 89 [.ag (R38 t0)] (.b r):=by
 unfold f89 at h
 refine fI func89 λ_ _=>?_
 refine Rcl 2 q (Bd q q (Zs _) q (Rll 8 q (Zq (ac br t0.objs e33 q q Zl) q (Rl 2 q ?_))))
 refine OG 4 12 16 4 4 ?_
 refine Rl 1 q ?_
 refine OG 4 17 21 4 4 ?_
 refine Rl 1 q ?_
 apply WL.or 5 (t:=22) (d:=27)
 exact q
 intro O
 exact Rl 2 q (Zy (ac bO t0.inits e34 q q Zl) q q q (Rl 2 q (WL.nil ⟨q,[_,_,_,_,_],q,q,q⟩)))
 exact Rn 5 5
 refine Rlc 2 q (Ci h q (λh=>Rcx 7 q (FA h)) λh=>?_)
 refine Rcc 7 q (Jn1 (λa=> [(1, .d (.pc (R38 t0))),(3, .n a)]) (λ_=> []) h (λG h=>?_) λa h=>?_)
 refine Rcc 6 q (Ln2 (λj k=> [(1, .d (.pc (R38 t0))),(3, .n j),(4, .n k)]) (λ_ _=> []) (f89_l1 t0 G) h (λ_ _ h=>by rw[f89_l1] at h;cases h) λn j k h=>?_)
 rw[f89_l1] at h
 refine Rcl 6 q (Zq (ac br t0.objs e33 q q Zl) q (Rlc 3 q (Ci h q (λh=>?_) λh=>?_)))
 refine Rcc 6 q (ao kR kR (Rq 4 q ?_))
 obtain⟨P,m,h⟩:=ab h
 refine WQ.qn (ai e33 q Zl q (ae m) (az bD m) q) q (Rq 1 q ?_)
 obtain⟨Q,H,h⟩:=ab h
 refine WQ.q (YieldsQ.fn q q q q q (f133_c H) Lw) (Zw q) q q (Rq 1 q (WQ.nil (Rxc 1 q (Ci h q (λh=>?_) λh=>?_))))
 exact Rcx 12 q (FA h)
 exact Rcl 7 q (Ix h e33 bD q Zl q q λR _ h=>(Rlx 12 q (Fn2 h)))
 exact Rcx 4 q (En1 h)
 refine Jn0 [(3, .n a)] [] h (λI h=>?_) (λh=>?_)
 refine Rcc 6 q (Ln1 (λc=> [(1, .d (.pc (R38 t0))),(3, .n a),(5, .n c)]) (λ_=> []) (f89_l2 t0 I) h (λ_ h=>by rw[f89_l2] at h;cases h) λn c h=>?_)
 rw[f89_l2] at h
 refine Rcl 6 q (Zq (ac bO t0.inits e34 q q Zl) q (Rlc 3 q (Ci h q (λh=>?_) λh=>?_)))
 refine Rcc 2 q (Jn3 (λ_ _ _=> [(1, .d (.pc (R38 t0))),(3, .n a),(5, .n c)]) (λp w x=> [.row 140 [.n p, .n w, .n x]]) h (λJ h=>?_) λp w x h=>?_)
 refine Rcl 6 q (Ix h e34 eW q Zl q q λe _ h=>(Rl 1 q (Al vI q (sS Z6 vW Z2 (Rlc 4 q (ao kR kR (Rq 5 q ?_)))))))
 obtain⟨S,K,h⟩:=ab h
 refine WQ.q (YieldsQ.fn q q q q q (f134_c K) Lw) (Zw q) q q (Rq 2 q ?_)
 obtain⟨L,y,h⟩:=ab h
 apply WQ.grp 11 (t:=70) (d:=81) (z:=L)
 exact q
 intro f
 have h:=dv y f
 refine Rq 11 q ?_
 obtain rfl:=Oi h
 exact WQ.nil ⟨[_,_,_,_,_,_,_,_,_,_,_],q,q,q⟩
 intro f
 have h:=dw y f
 refine Rq 4 q ?_
 obtain⟨T,A,h⟩:=ab h
 refine WQ.qy (ai e33 q Zl q (ae A) (az bD A) q) q q q (Rq 3 q ?_)
 obtain⟨U,M,h⟩:=ab h
 refine WQ.q (YieldsQ.fn q q q q q (f34_c M) Lw) (aU q q q) q q (Rq 2 q ?_)
 obtain rfl:=Oi h
 exact WQ.nil ⟨[_,_,_,_,_,_,_,_,_,_,_],q,q,q⟩
 refine WQ.nil (Rxc 1 q (Ci h q (λh=>?_) λh=>?_))
 exact Rcx 12 q (FA h)
 refine Rcc 8 q (Ln1 (λB=> [(1, .d (.pc (R38 t0))),(3, .n a),(5, .n c),(6, .pt 0 0),(7, .n B)]) (λ_=> [.row 140 [.n e.o, .n e.slot, .n e.v]]) (f89_l3 t0 c J e) h (λ_ h=>by rw[f89_l3] at h;cases h) λna B h=>?_)
 rw[f89_l3] at h
 refine Rcc 8 q (Ci h q (λh=>?_) λh=>?_)
 refine Rcc 5 q (ao kR kR (Rq 3 q ?_))
 obtain⟨V,C,h⟩:=ab h
 refine WQ.qn (ai e34 q Zl q (ae C) (az eW C) q) q (Rq 6 q ?_)
 obtain⟨N,E,h⟩:=ab h
 apply WQ.grp 10 (t:=96) (d:=106) (z:=N)
 exact q
 intro g
 have h:=dv E g
 refine Rq 3 q ?_
 obtain⟨W,F,h⟩:=ab h
 refine WQ.qy (ai e34 q Zl q (ae F) (az eW F) q) q q q (Rq 6 q ?_)
 obtain rfl:=Oi h
 exact WQ.nil ⟨[_,_,_,_,_,_,_,_,_,_],q,q,q⟩
 intro g
 have h:=dw E g
 refine Rq 10 q ?_
 obtain rfl:=Oi h
 exact WQ.nil ⟨[_,_,_,_,_,_,_,_,_,_],q,q,q⟩
 refine WQ.nil (Rxc 1 q (Ci h q (λh=>?_) λh=>?_))
 exact Rcx 15 q (FA h)
 exact Rcx 8 q (Fn1 h)
 exact Rcx 5 q (En3 h)
 exact Rcx 5 q (WE.drop 0 (env':=[(1, .d (.pc (R38 t0))),(3, .n a),(5, .n (IntKind.i64.wrap (c+1)))]) Sb q q (Nat.zero_le _) (Fn1 h))
 exact Rcx 4 q (En0 h)
 exact Rcx 8 q (FA h)

theorem f30_c{t0:aj}{a1:Int}:Pu prog 30 [.ag (R38 t0), .i .i64 a1] (.b (f30 t0 a1)):=by
 generalize h:f30 t0 a1=r
 unfold f30 at h
 refine fI func30 λ_ _=>?_
 refine Rcl 2 q (Bd q q (Zs _) q (Rll 8 q ?_))
 apply WL.and 6 (t:=7) (d:=13)
 exact q
 intro a
 exact Rl 3 q (Zy (ac E45 t0.insns e23 q q Zl) q q q (Rl 2 q (WL.nil ⟨q,[_,_,_,_,_,_],q,q,q⟩)))
 exact Rn 6 6
 exact Rlx 4 q (FB h)

theorem f135_c{t0:aj}{l1:lI}{r:Bool}(h:f135 t0 l1=some r):Pu prog 135 [.ag (R38 t0), .sl (List.map E3 l1)] (.b r):=by
 unfold f135 at h
 refine fI func135 λ_ _=>?_
 refine Rcl 2 q (Bd q q (Zs _) q (Rll 7 q (Zq (ac E3 l1 e96 q q Zl) q (Rlc 3 q (Ci h q (λh=>?_) λh=>?_)))))
 exact Rcx 7 q (FA h)
 refine Rcc 2 q (Jn0 [] [] h (λw h=>?_) λh=>?_)
 refine Rcc 6 q (Ln1 (λe=> [(1, .l E3 l1),(2, .d (.pc (R38 t0))),(5, .n e)]) (λ_=> []) (f135_l1 t0 l1 w) h (λ_ h=>by rw[f135_l1] at h;cases h) λn e h=>?_)
 rw[f135_l1] at h
 refine Rcl 5 q (Zq (ac E3 l1 e96 q q Zl) q (Rlc 3 q (Ci h q (λh=>?_) λh=>?_)))
 refine Rcc 5 q (ao kR kR (Rq 2 q ?_))
 obtain⟨A,f,h⟩:=ab h
 refine WQ.qn (ai e96 q Zl q (ae f) (az fd f) q) q (Rq 3 q ?_)
 obtain⟨x,g,h⟩:=ab h
 apply WQ.grp 9 (t:=20) (d:=29) (z:=x)
 exact q
 intro a
 have h:=dv g a
 refine Rq 9 q ?_
 obtain rfl:=Oi h
 exact WQ.nil ⟨[_,_,_,_,_,_,_,_,_],q,q,q⟩
 intro a
 have h:=dw g a
 refine Rq 2 q ?_
 obtain⟨B,j,h⟩:=ab h
 refine WQ.qy (ai e96 q Zl q (ae j) (az fd j) q) q q q (Rq 3 q (WQ.qy (ac br t0.objs e33 q q Zl) q q q (Rq 2 q ?_)))
 obtain rfl:=Oi h
 exact WQ.nil ⟨[_,_,_,_,_,_,_,_,_],q,q,q⟩
 refine Rq 1 q ?_
 obtain⟨y,k,h⟩:=ab h
 apply WQ.grp 11 (t:=30) (d:=41) (z:=y)
 exact q
 intro c
 have h:=dv k c
 refine Rq 11 q ?_
 obtain rfl:=Oi h
 exact WQ.nil ⟨[_,_,_,_,_,_,_,_,_,_,_],q,q,q⟩
 intro c
 have h:=dw k c
 refine Rq 4 q ?_
 obtain⟨C,m,h⟩:=ab h
 refine WQ.qy (ai e96 q Zl q (ae m) (az fd m) q) q q q (Rq 1 q ?_)
 obtain⟨E,p,h⟩:=ab h
 refine WQ.qy (ai e33 q Zl q (ae p) (az bD p) q) q q q (Rq 4 q ?_)
 obtain rfl:=Oi h
 exact WQ.nil ⟨[_,_,_,_,_,_,_,_,_,_,_],q,q,q⟩
 refine WQ.nil (Rxc 1 q (Ci h q (λh=>?_) λh=>?_))
 exact Rcx 11 q (FA h)
 exact Rcx 8 q (Fn1 h)
 exact Rcx 4 q (En0 h)
 exact Rcx 6 q (FA h)

theorem f90_c{t0:aj}{r:Bool}(h:f90 t0=some r):Pu prog 90 [.ag (R38 t0)] (.b r):=by
 unfold f90 at h
 refine fI func90 λ_ _=>?_
 refine Rcl 2 q (Bd q q (Zs _) q (Rll 8 q (Zq (ac E27 t0.tasks e28 q q Zl) q (Rl 2 q ?_))))
 apply WL.or 5 (t:=10) (d:=15)
 exact q
 intro F
 exact Rl 2 q (Zy (ac E27 t0.tasks e28 q q Zl) q q q (Rl 2 q (WL.nil ⟨q,[_,_,_,_,_],q,q,q⟩)))
 exact Rn 5 5
 refine Rlc 2 q (Ci h q (λh=>Rcx 7 q (FA h)) λh=>?_)
 refine Rcc 2 q (Jn0 [] [] h (λy h=>?_) λh=>?_)
 refine Rcc 6 q (Ln1 (λc=> [(1, .d (.pc (R38 t0))),(3, .n c)]) (λ_=> []) (f90_l1 t0 y) h (λ_ h=>by rw[f90_l1] at h;cases h) λn c h=>?_)
 rw[f90_l1] at h
 refine Rcl 6 q (Zq (ac E27 t0.tasks e28 q q Zl) q (Rlc 3 q (Ci h q (λh=>?_) λh=>?_)))
 refine Rcc 2 q (Jn4 (λ_ _ _ _=> [(1, .d (.pc (R38 t0))),(3, .n c)]) (λf g j k=> [.row 27 [.n f, .n g, .l jw j, .n k]]) h (λA h=>?_) λf g j k h=>?_)
 refine Rcl 6 q (Ix h e28 jv q Zl q q λa _ h=>(Rl 1 q (Al z27 q (sS Z6 s27 Z2 (Rll 9 q ?_)))))
 refine OG 4 31 35 4 4 ?_
 refine Rl 1 q ?_
 apply WL.or 6 (t:=36) (d:=42)
 exact q
 intro G
 exact Rl 3 q (WL.fn q q q q (f30_c) Lw (aU q q q) q q (Rl 2 q (WL.nil ⟨q,[_,_,_,_,_,_],q,q,q⟩)))
 exact Rn 6 6
 refine Rl 1 q ?_
 refine OG 4 43 47 4 4 ?_
 refine Rl 1 q ?_
 refine OG 4 48 52 4 4 ?_
 refine Rl 1 q ?_
 apply WL.or 5 (t:=53) (d:=58)
 exact q
 intro H
 exact Rl 2 q (Zy (ac jw a.entries e25 q q Zl) q q q (Rl 2 q (WL.nil ⟨q,[_,_,_,_,_],q,q,q⟩)))
 exact Rn 5 5
 refine Rlc 2 q (Ci h q (λh=>Rcx 12 q (FA h)) λh=>?_)
 refine Rcc 8 q (Ln1 (λm=> [(1, .d (.pc (R38 t0))),(3, .n c),(4, .pt 0 0),(5, .n m)]) (λ_=> [.row 27 [.n a.prio, .n a.at_, .l jw a.entries, .n a.deadline]]) (f90_l2 t0 A a) h (λ_ h=>by rw[f90_l2] at h;cases h) λna m h=>?_)
 rw[f90_l2] at h
 refine Rcl 6 q (Zq (ac jw a.entries e25 q q Zl) q (Rlc 3 q (Ci h q (λh=>?_) λh=>?_)))
 refine Rcc 5 q (ao kR kR (Rq 4 q ?_))
 obtain⟨I,p,h⟩:=ab h
 refine WQ.qn (ai e25 q Zl q (ae p) (az jZ p) q) q (Rq 2 q ?_)
 obtain⟨J,B,h⟩:=ab h
 refine WQ.q (YieldsQ.fn q q q q q (f135_c B) Lw) (Zw q) q q (Rq 2 q ?_)
 obtain⟨C,w,h⟩:=ab h
 apply WQ.grp 10 (t:=75) (d:=85) (z:=C)
 exact q
 intro e
 have h:=dv w e
 refine Rq 10 q ?_
 obtain rfl:=Oi h
 exact WQ.nil ⟨[_,_,_,_,_,_,_,_,_,_],q,q,q⟩
 intro e
 have h:=dw w e
 refine Rq 4 q ?_
 obtain⟨K,x,h⟩:=ab h
 refine WQ.qy (ai e25 q Zl q (ae x) (az jZ x) q) q q q (Rq 2 q ?_)
 obtain⟨L,E,h⟩:=ab h
 refine WQ.q (YieldsQ.fn q q q q q (f135_c E) Lw) (aU q q q) q q (Rq 2 q ?_)
 obtain rfl:=Oi h
 exact WQ.nil ⟨[_,_,_,_,_,_,_,_,_,_],q,q,q⟩
 refine WQ.nil (Rxc 1 q (Ci h q (λh=>?_) λh=>?_))
 exact Rcx 15 q (FA h)
 exact Rcx 8 q (Fn1 h)
 exact Rcx 5 q (En4 h)
 exact Rcx 5 q (WE.drop 0 (env':=[(1, .d (.pc (R38 t0))),(3, .n (IntKind.i64.wrap (c+1)))]) Sb q q (Nat.zero_le _) (Fn1 h))
 exact Rcx 4 q (En0 h)
 exact Rcx 6 q (FA h)

theorem f136s_c(k:aj→Int→aW→Int→Int→Option (Int))(t0:aj)(a:Int)(e2:aW)(c:Int)(n4:Int)(E:∀(x0:aj)(x1:Int)(x2:aW)(x3:Int)(x4:Int)(r:Int),k x0 x1 x2 x3 x4=some r→Pu prog 136 [.ag (R38 x0), .i .i64 x1, .ag (kE x2), .i .i64 x3, .i .i64 x4] (.i .i64 r)){r:Int}(h:f136s k t0 a e2 c n4=some r):Pu prog 136 [.ag (R38 t0), .i .i64 a, .ag (kE e2), .i .i64 c, .i .i64 n4] (.i .i64 r):=by
 unfold f136s at h
 refine fI func136 λ_ _=>?_
 refine Rcl 2 q (Bd q q (Zs _) q (Bd q q (Zs _) q (Rll 9 q ?_)))
 refine OG 3 18 21 3 3 ?_
 refine Rlc 2 q (Ci h q (λh=>Rcx 7 q (FA h)) λh=>?_)
 refine Rcl 6 q (Zq (aa p179 sg q q) q (Al sg q (sS Z6 la Z2 (Rlc 12 q (Jn6 (λm p _ _ _ _=> [(1, .n a),(3, .n c),(4, .n n4),(5, .d (.pc (R38 t0))),(7, .d (.pc (kE e2))),(11, .pt 0 0),(12, .n m),(13, .d (D.b p))]) (λ_ _ e f g j=> [.row 179 [.d (D.i .u8 e2.kind), .d (D.i .u8 e), .n f, .n g, .n j, .n 0, .n 0, .n 0,sN]]) h (λ_ h=>?_) λm p e f g j h=>?_)))))
 refine Rcc 13 q (Ci h q (λh=>Rcl 4 q (sS Z6 s2 Z2 (Rlx 2 q (En6 h)))) λh=>?_)
 refine Rcc 6 q (Ci h q (λh=>?_) λh=>?_)
 refine Rcl 5 q (sS Z6 s3 Z2 (Rll 7 q (sS Z6 s3 Z2 (Rll 8 q ?_))))
 obtain⟨K,F,h⟩:=ab h
 refine wF Z4 (f134_c F) Lw Z3 (Rl 1 q ?_)
 obtain⟨G,H,h⟩:=ab h
 refine Gg 9 46 55 G H (λh=>?_) (λh=>?_) ?_
 refine Rl 4 q ?_
 obtain⟨L,w,h⟩:=ab h
 exact Zy (ai e33 q Zl q (ae w) (az bD w) q) q q q (On 4 9 h)
 exact On 9 9 h
 exact Rlx 3 q (En6 h)
 refine Rcc 6 q (Ci h q (λh=>?_) λh=>?_)
 refine Rcl 5 q (sS Z6 s2 Z2 (Rll 7 q ?_))
 refine AG 5 64 69 5 5 ?_
 exact Rlx 3 q (En6 h)
 refine Rcc 6 q (Ci h q (λh=>Rcl 3 q (sS Z6 ut Z2 (Rlx 6 q (En6 h)))) λh=>?_)
 refine Rcc 6 q (Ci h q (λh=>?_) λh=>?_)
 refine Rcl 5 q (sS Z6 ut Z2 (Rll 12 q ?_))
 refine AG 4 81 85 4 4 ?_
 exact Rlx 3 q (En6 h)
 refine Jn1 (λx=> [(1, .n a),(3, .n c),(4, .n n4),(5, .d (.pc (R38 t0))),(7, .d (.pc (kE e2))),(11, .pt 0 0),(13, .d (D.b true)),(86, .d (D.b x))]) (λ_=> [.row 179 [.d (D.i .u8 e2.kind), .d (D.i .u8 0), .n 0, .n 0, .n 0, .n 0, .n 0, .n 0,sN]]) h (λ_ h=>?_) (λx h=>?_)
 exact Rcc 6 q (Ci h q (λh=>Rcx 1 q (En1 h)) λh=>Rcx 4 q (En1 h))
 refine Ci h q (λh=>?_) (λh=>?_)
 exact Rcx 4 q (En6 h)
 exact Rcx 8 q (FA h)
 refine Rcl 8 q ?_
 refine AG 6 94 100 6 6 ?_
 refine Rl 1 q ?_
 refine AG 6 101 107 6 6 ?_
 refine Rl 1 q ?_
 refine AG 6 108 114 6 6 ?_
 refine Rl 1 q ?_
 refine AG 4 115 119 4 4 ?_
 refine Rl 1 q ?_
 refine AG 4 120 124 4 4 ?_
 refine Rl 1 q ?_
 refine AG 4 125 129 4 4 ?_
 refine Rll 9 q ?_
 refine OG 3 132 135 3 3 ?_
 refine Rl 1 q ?_
 apply WL.or 6 (t:=136) (d:=142)
 exact q
 intro M
 exact Rl 2 q (Zy (ac dU e2.l iI q q Zl) q q q (Rl 3 q (WL.nil ⟨q,[_,_,_,_,_,_],q,q,q⟩)))
 exact Rn 6 6
 refine Rlc 2 q (Ci h q (λh=>Rcx 7 q (FA h)) λh=>?_)
 refine Rcc 9 q (Jn1 (λy=> [(4, .n y)]) (λ_=> [.row 179 [.d (D.i .u8 e2.kind), .d (D.i .u8 e), .n f, .n g, .n j, .n 0, .n 0, .n 0,sN]]) h (λI h=>?_) λy h=>?_)
 refine Rcc 6 q (Ln2 (λA B=> [(1, .n a),(3, .n c),(4, .n A),(5, .d (.pc (R38 t0))),(7, .d (.pc (kE e2))),(15, .n B)]) (λ_ _=> [.row 179 [.d (D.i .u8 e2.kind), .d (D.i .u8 e), .n f, .n g, .n j, .n 0, .n 0, .n 0,sN]]) (f136s_l1 k t0 a e2 c I) h (λ_ _ h=>by rw[f136s_l1] at h;cases h) λn A B h=>?_)
 rw[f136s_l1] at h
 refine Rcl 6 q (Zq (ac dU e2.l iI q q Zl) q (Rl 2 q ?_))
 refine AG 3 150 153 3 3 ?_
 refine Rlc 2 q (Ci h q (λh=>?_) λh=>?_)
 refine Rcc 4 q (ao kR kR (Rq 5 q ?_))
 obtain⟨N,C,h⟩:=ab h
 refine WQ.qn (ai iI q Zl q (ae C) (az iG C) q) q (Rq 4 q ?_)
 obtain⟨O,J,h⟩:=ab h
 exact WQ.q (YieldsQ.fn q q q q q (E _ _ _ _ _ _ J) Lw) (Zw q) q q (Rq 1 q (WQ.nil (Rxx 7 q (Fn2 h))))
 exact Rcx 4 q (En1 h)
 exact Rcx 7 q (FA h)

theorem f136_c:∀(n:Nat)(x0:aj)(x1:Int)(x2:aW)(x3:Int)(x4:Int){r:Int},f136 n x0 x1 x2 x3 x4=some r→Pu prog 136 [.ag (R38 x0), .i .i64 x1, .ag (kE x2), .i .i64 x3, .i .i64 x4] (.i .i64 r)
 |0,_,_,_,_,_,_,h=>by cases h
 |n+1,x0,x1,x2,x3,x4,_,h=>f136s_c (f136 n) x0 x1 x2 x3 x4 (λx0 x1 x2 x3 x4 _ h=>f136_c n x0 x1 x2 x3 x4 h) h

theorem f137_c{t0:aj}{a1:Int}{r:Bool}(h:f137 t0 a1=some r):Pu prog 137 [.ag (R38 t0), .i .i64 a1] (.b r):=by
 unfold f137 at h
 refine fI func137 λ_ _=>?_
 refine Rcl 2 q (Bd q q (Zs _) q (Rll 7 q (wF Z4 (f30_c) Lw Z3 (Rl 1 q ?_))))
 obtain⟨d,e,h⟩:=ab h
 refine Gg 17 8 25 d e (λh=>?_) (λh=>?_) ?_
 refine Rl 3 q ?_
 obtain⟨j,a,h⟩:=ab h
 refine Zy (ai e23 q Zl q (ae a) (az dr a) q) q q q (Rl 4 q ?_)
 obtain⟨f,g,h⟩:=ab h
 refine Gg 8 16 24 f g (λh=>?_) (λh=>?_) ?_
 exact On 8 8 h
 refine Rl 3 q ?_
 obtain⟨k,c,h⟩:=ab h
 exact Zy (ai e23 q Zl q (ae c) (az dr c) q) q q q (On 4 8 h)
 exact On 1 10 h
 exact On 17 17 h
 exact Rlx 4 q (FA h)

theorem f91_c{t0:aj}{r:Bool}(h:f91 t0=some r):Pu prog 91 [.ag (R38 t0)] (.b r):=by
 unfold f91 at h
 refine fI func91 λ_ _=>?_
 refine Rcl 2 q (Bd q q (Zs _) q (Rll 8 q (Zq (ac bI t0.prots e35 q q Zl) q (Rlc 3 q (Ci h q (λh=>?_) λh=>?_)))))
 exact Rcx 7 q (FA h)
 refine Rcc 2 q (Jn0 [(1, .d (.pc (R38 t0)))] [] h (λA h=>?_) λh=>?_)
 refine Rcc 6 q (Ln1 (λc=> [(1, .d (.pc (R38 t0))),(3, .n c)]) (λ_=> []) (f91_l1 t0 A) h (λ_ h=>by rw[f91_l1] at h;cases h) λn c h=>?_)
 rw[f91_l1] at h
 refine Rcl 6 q (Zq (ac bI t0.prots e35 q q Zl) q (Rlc 3 q (Ci h q (λh=>?_) λh=>?_)))
 refine Rcc 2 q (Jn2 (λ_ _=> [(1, .d (.pc (R38 t0))),(3, .n c)]) (λj k=> [.row 164 [.n j, .l dU k]]) h (λB h=>?_) λj k h=>?_)
 refine Rcl 6 q (Ix h e35 j6 q Zl q q λa _ h=>(Rl 1 q (Al t9 q (sS Z6 s164 Z2 (Rll 9 q ?_)))))
 refine OG 4 27 31 4 4 ?_
 refine Rl 1 q ?_
 apply WL.or 5 (t:=32) (d:=37)
 exact q
 intro I
 exact Rl 2 q (Zy (ac dU a.barriers iI q q Zl) q q q (Rl 2 q (WL.nil ⟨q,[_,_,_,_,_],q,q,q⟩)))
 exact Rn 5 5
 refine Rlc 2 q (Ci h q (λh=>Rcx 12 q (FA h)) λh=>?_)
 refine Rcc 8 q (Ln1 (λm=> [(1, .d (.pc (R38 t0))),(3, .n c),(4, .pt 0 0),(5, .n m)]) (λ_=> [.row 164 [.n a.ceiling, .l dU a.barriers]]) (f91_l2 t0 B a) h (λ_ h=>by rw[f91_l2] at h;cases h) λna m h=>?_)
 rw[f91_l2] at h
 refine Rcl 6 q (Zq (ac dU a.barriers iI q q Zl) q (Rlc 3 q (Ci h q (λh=>?_) λh=>?_)))
 refine Rcc 5 q (ao kR kR (Rq 3 q (WQ.qn (ac dU a.barriers iI q q Zl) q (Rq 3 q ?_))))
 obtain⟨J,p,h⟩:=ab h
 refine WQ.qn (ai iI q Zl q (ae p) (az iG p) q) q (Rq 1 q ?_)
 obtain⟨K,C,h⟩:=ab h
 refine WQ.q (YieldsQ.fn q q q q q (f136_c 67 _ _ _ _ _ C) Lw) (Zw q) q q (Rq 1 q (WQ.nil (Rxc 1 q (Ci h q (λh=>?_) λh=>?_))))
 exact Rcx 15 q (FA h)
 exact Rcx 8 q (Fn1 h)
 exact Rcx 5 q (En2 h)
 exact Rcx 5 q (WE.drop 0 (env':=[(1, .d (.pc (R38 t0))),(3, .n (IntKind.i64.wrap (c+1)))]) Sb q q (Nat.zero_le _) (Fn1 h))
 exact Rcx 4 q (En0 h)
 refine Jn0 [] [] h (λE h=>?_) (λh=>?_)
 refine Rcc 6 q (Ln1 (λe=> [(1, .d (.pc (R38 t0))),(6, .n e)]) (λ_=> []) (f91_l3 t0 E) h (λ_ h=>by rw[f91_l3] at h;cases h) λn e h=>?_)
 rw[f91_l3] at h
 refine Rcl 6 q (Zq (ac bY t0.checks e36 q q Zl) q (Rlc 3 q (Ci h q (λh=>?_) λh=>?_)))
 refine Rcl 9 q (Ix h e36 ot q Zl q q λL _ h=>(Rl 1 q (Al z192 q (sS Z6 s192 Z2 (Rlc 3 q (ao kR kR (Rq 3 q ?_)))))))
 obtain⟨M,F,h⟩:=ab h
 refine WQ.q (YieldsQ.fn q q q q q (f137_c F) Lw) (Zw q) q q (Rq 2 q ?_)
 obtain⟨G,w,h⟩:=ab h
 apply WQ.grp 15 (t:=73) (d:=88) (z:=G)
 exact q
 intro f
 have h:=dv w f
 refine Rq 15 q ?_
 obtain rfl:=Oi h
 exact WQ.nil ⟨[_,_,_,_,_,_,_,_,_,_,_,_,_,_,_],q,q,q⟩
 intro f
 have h:=dw w f
 refine Rq 3 q ?_
 obtain⟨H,x,h⟩:=ab h
 apply WQ.grp 11 (t:=76) (d:=87) (z:=H)
 exact q
 intro g
 have h:=dv x g
 refine Rq 4 q ?_
 obtain⟨N,y,h⟩:=ab h
 refine WQ.qy (ai e36 q Zl q (ae y) (az ot y) q) q q q (Rq 6 q ?_)
 obtain rfl:=Oi h
 exact WQ.nil ⟨[_,_,_,_,_,_,_,_,_,_,_],q,q,q⟩
 intro g
 have h:=dw x g
 refine Rq 11 q ?_
 obtain rfl:=Oi h
 exact WQ.nil ⟨[_,_,_,_,_,_,_,_,_,_,_],q,q,q⟩
 refine Rq 1 q ?_
 obtain rfl:=Oi h
 exact WQ.nil ⟨[_,_,_,_,_],q,q,q⟩
 refine Rq 1 q ?_
 apply WQ.or 4 (t:=89) (d:=93)
 exact q
 intro O
 exact Rq 4 q (WQ.nil ⟨[_,_,_,_],q,q,q⟩)
 exact Rq 4 q (WQ.nil ⟨[_,_,_,_],q,q,q⟩)
 refine Rq 1 q ?_
 apply WQ.or 4 (t:=94) (d:=98)
 exact q
 intro P
 exact Rq 4 q (WQ.nil ⟨[_,_,_,_],q,q,q⟩)
 exact Rq 4 q (WQ.nil ⟨[_,_,_,_],q,q,q⟩)
 refine WQ.nil (Rxc 1 q (Ci h q (λh=>?_) λh=>?_))
 exact Rcx 11 q (FA h)
 exact Rcx 8 q (WE.drop 0 (env':=[(1, .d (.pc (R38 t0))),(6, .n (IntKind.i64.wrap (e+1)))]) Sb q q (Nat.zero_le _) (Fn1 h))
 exact Rcx 4 q (En0 h)
 exact Rcx 6 q (FA h)

theorem f138_c{t0:aj}{a:Int}{a2:ju}{r:Bool}(h:f138 t0 a a2=some r):Pu prog 138 [.ag (R38 t0), .i .i64 a, .ag (qw a2)] (.b r):=by
 unfold f138 at h
 refine fI func138 λ_ _=>?_
 refine Rcl 2 q (Bd q q (Zs _) q (Bd q q (Zs _) q (Rll 9 q (wF Z4 (f30_c) Lw Z3 (Rl 2 q ?_)))))
 obtain⟨e,f,h⟩:=ab h
 refine Gg 12 12 24 e f (λh=>?_) (λh=>?_) ?_
 exact On 12 12 h
 refine Rl 4 q ?_
 obtain⟨g,j,h⟩:=ab h
 refine Gg 7 16 23 g j (λh=>?_) (λh=>?_) ?_
 refine Rl 4 q ?_
 obtain⟨w,k,h⟩:=ab h
 exact WL.fn q q q q (f134_c k) Lw (aU q q q) q q (On 2 7 h)
 exact On 7 7 h
 exact On 1 6 h
 refine Rlc 2 q (Ci h q (λh=>Rcx 7 q (FA h)) λh=>?_)
 refine Rcc 16 q (Ci h q (λh=>?_) λh=>?_)
 refine Rcl 6 q ?_
 refine AG 4 32 36 4 4 ?_
 refine Rl 1 q ?_
 refine AG 4 37 41 4 4 ?_
 exact Rlx 6 q (FA h)
 refine Jn1 (λc=> [(1, .n a),(3, .d (.pc (R38 t0))),(5, .d (.pc (qw a2))),(42, .d (D.b c))]) (λ_=> []) h (λ_ h=>?_) (λc h=>?_)
 exact Rcc 6 q (Ci h q (λh=>Rcx 1 q (En1 h)) λh=>Rcx 4 q (En1 h))
 refine Ci h q (λh=>?_) (λh=>?_)
 refine Rcl 6 q ?_
 obtain⟨m,p,h⟩:=ab h
 refine Gg 6 48 54 m p (λh=>?_) (λh=>?_) ?_
 refine Rl 4 q ?_
 obtain⟨x,t,h⟩:=ab h
 exact WL.fn q q q q (f134_c t) Lw (aU q q q) q q (On 1 6 h)
 exact On 6 6 h
 exact Rlx 6 q (FA h)
 refine Rcl 9 q ?_
 refine AG 4 58 62 4 4 ?_
 refine Rl 1 q ?_
 refine AG 4 63 67 4 4 ?_
 exact Rlx 4 q (FA h)

theorem f92_c{t0:aj}{r:Bool}(h:f92 t0=some r):Pu prog 92 [.ag (R38 t0)] (.b r):=by
 unfold f92 at h
 refine fI func92 λ_ _=>?_
 refine Rcl 2 q (Bd q q (Zs _) q (Rll 8 q (Zq (ac bS t0.selects e31 q q Zl) q (Rl 2 q ?_))))
 apply WL.or 5 (t:=14) (d:=19)
 exact q
 intro Q
 exact Rl 2 q (Zy (ac E96 t0.lists e32 q q Zl) q q q (Rl 2 q (WL.nil ⟨q,[_,_,_,_,_],q,q,q⟩)))
 exact Rn 5 5
 refine Rlc 2 q (Ci h q (λh=>Rcx 7 q (FA h)) λh=>?_)
 refine Rcc 2 q (Jn0 [(1, .d (.pc (R38 t0)))] [] h (λG h=>?_) λh=>?_)
 refine Rcc 6 q (Ln1 (λf=> [(1, .d (.pc (R38 t0))),(3, .n f)]) (λ_=> []) (f92_l1 t0 G) h (λ_ h=>by rw[f92_l1] at h;cases h) λn f h=>?_)
 rw[f92_l1] at h
 refine Rcl 6 q (Zq (ac bS t0.selects e31 q q Zl) q (Rlc 3 q (Ci h q (λh=>?_) λh=>?_)))
 refine Rcc 2 q (Jn3 (λ_ _ _=> [(1, .d (.pc (R38 t0))),(3, .n f)]) (λk m p=> [.row 155 [.l gp k, .n m, .n p]]) h (λH h=>?_) λk m p h=>?_)
 refine Rcl 6 q (Ix h e31 rj q Zl q q λa _ h=>(Rl 1 q (Al z155 q (sS Z6 s155 Z2 (Rll 7 q (Zq (ac gp a.alts pn q q Zl) q (Rl 2 q ?_)))))))
 apply WL.or 5 (t:=36) (d:=41)
 exact q
 intro R
 exact Rl 2 q (Zy (ac gp a.alts pn q q Zl) q q q (Rl 2 q (WL.nil ⟨q,[_,_,_,_,_],q,q,q⟩)))
 exact Rn 5 5
 refine Rl 1 q ?_
 obtain⟨I,J,h⟩:=ab h
 refine Gg 6 42 48 I J (λh=>?_) (λh=>?_) ?_
 exact On 6 6 h
 refine Rl 3 q ?_
 obtain⟨S,K,h⟩:=ab h
 exact WL.fn q q q q (f134_c K) Lw (aU q q q) q q (On 2 6 h)
 refine Rl 1 q ?_
 apply WL.or 11 (t:=49) (d:=60)
 exact q
 intro T
 refine Rl 4 q ?_
 apply WL.and 6 (t:=53) (d:=59)
 exact q
 intro U
 exact Rl 3 q (WL.fn q q q q (f30_c) Lw (aU q q q) q q (Rl 2 q (WL.nil ⟨q,[_,_,_,_,_,_],q,q,q⟩)))
 exact Rn 6 6
 exact Rn 1 6
 exact Rn 11 11
 refine Rlc 2 q (Ci h q (λh=>Rcx 12 q (FA h)) λh=>?_)
 refine Rcc 8 q (Ln1 (λw=> [(1, .d (.pc (R38 t0))),(3, .n f),(4, .pt 0 0),(5, .n w)]) (λ_=> [.row 155 [.l gp a.alts, .n a.obj, .n a.else_]]) (f92_l2 t0 H a) h (λ_ h=>by rw[f92_l2] at h;cases h) λna w h=>?_)
 rw[f92_l2] at h
 refine Rcl 6 q (Zq (ac gp a.alts pn q q Zl) q (Rlc 3 q (Ci h q (λh=>?_) λh=>?_)))
 refine Rcc 5 q (ao kR kR (Rq 6 q ?_))
 obtain⟨V,x,h⟩:=ab h
 refine WQ.qn (ai pn q Zl q (ae x) (az ri x) q) q (Rq 1 q ?_)
 obtain⟨W,L,h⟩:=ab h
 refine WQ.q (YieldsQ.fn q q q q q (f138_c L) Lw) (Zw q) q q (Rq 1 q (WQ.nil (Rxc 1 q (Ci h q (λh=>?_) λh=>?_))))
 exact Rcx 15 q (FA h)
 exact Rcx 8 q (Fn1 h)
 exact Rcx 5 q (En3 h)
 exact Rcx 5 q (WE.drop 0 (env':=[(1, .d (.pc (R38 t0))),(3, .n (IntKind.i64.wrap (f+1)))]) Sb q q (Nat.zero_le _) (Fn1 h))
 exact Rcx 4 q (En0 h)
 refine Jn0 [] [] h (λM h=>?_) (λh=>?_)
 refine Rcc 6 q (Ln1 (λe=> [(1, .d (.pc (R38 t0))),(6, .n e)]) (λ_=> []) (f92_l3 t0 M) h (λ_ h=>by rw[f92_l3] at h;cases h) λn e h=>?_)
 rw[f92_l3] at h
 refine Rcl 6 q (Zq (ac E96 t0.lists e32 q q Zl) q (Rlc 3 q (Ci h q (λh=>?_) λh=>?_)))
 refine Rcc 2 q (Jn0 [(1, .d (.pc (R38 t0))),(6, .n e)] [] h (λN h=>?_) λh=>?_)
 refine Rcl 6 q (Ix h e32 t6 q Zl q q λc _ h=>(Rll 8 q (Zq (ac E3 c e96 q q Zl) q (Rlc 3 q (Ci h q (λh=>?_) λh=>?_)))))
 exact Rcx 12 q (FA h)
 refine Rcc 8 q (Ln1 (λg=> [(1, .d (.pc (R38 t0))),(6, .n e),(7, .l E3 c),(8, .n g)]) (λ_=> []) (f92_l4 t0 N c) h (λ_ h=>by rw[f92_l4] at h;cases h) λna g h=>?_)
 rw[f92_l4] at h
 refine Rcl 5 q (Zq (ac E3 c e96 q q Zl) q (Rlc 3 q (Ci h q (λh=>?_) λh=>?_)))
 refine Rcc 2 q (Jn0 [(1, .d (.pc (R38 t0))),(6, .n e),(7, .l E3 c),(8, .n g)] [] h (λO h=>?_) λh=>?_)
 refine Rcc 3 q (ao kR kR (Rq 2 q ?_))
 obtain⟨X,y,h⟩:=ab h
 refine WQ.qn (ai e96 q Zl q (ae y) (az fd y) q) q (Rq 3 q ?_)
 obtain⟨P,A,h⟩:=ab h
 apply WQ.grp 9 (t:=104) (d:=113) (z:=P)
 exact q
 intro j
 have h:=dv A j
 refine Rq 9 q ?_
 obtain rfl:=Oi h
 exact WQ.nil ⟨[_,_,_,_,_,_,_,_,_],q,q,q⟩
 intro j
 have h:=dw A j
 refine Rq 2 q ?_
 obtain⟨Y,B,h⟩:=ab h
 refine WQ.qy (ai e96 q Zl q (ae B) (az fd B) q) q q q (Rq 3 q (WQ.qy (ac E27 t0.tasks e28 q q Zl) q q q (Rq 2 q ?_)))
 obtain rfl:=Oi h
 exact WQ.nil ⟨[_,_,_,_,_,_,_,_,_],q,q,q⟩
 refine WQ.nil (Rxc 1 q (Ci h q (λh=>?_) λh=>?_))
 exact Rcx 16 q (FA h)
 refine Rcc 8 q (Ln1 (λC=> [(1, .d (.pc (R38 t0))),(6, .n e),(7, .l E3 c),(8, .n g),(9, .n C)]) (λ_=> []) (f92_l5 c g O) h (λ_ h=>by rw[f92_l5] at h;cases h) λnb C h=>?_)
 rw[f92_l5] at h
 refine Rcc 8 q (Ci h q (λh=>?_) λh=>?_)
 refine Rcc 5 q (ao kR kR (Rq 2 q ?_))
 obtain⟨Z,E,h⟩:=ab h
 refine WQ.qn (ai e96 q Zl q (ae E) (az fd E) q) q (Rq 3 q ?_)
 obtain⟨ad,F,h⟩:=ab h
 refine WQ.qn (ai e96 q Zl q (ae F) (az fd F) q) q (Rq 2 q (WQ.nil (Rxc 1 q (Ci h q (λh=>?_) λh=>?_))))
 exact Rcx 19 q (FA h)
 exact Rcx 8 q (Fn1 h)
 exact Rcx 5 q (En0 h)
 exact Rcx 5 q (Fn1 h)
 exact Rcx 5 q (En0 h)
 exact Rcx 5 q (Fn1 h)
 exact Rcx 4 q (En0 h)
 exact Rcx 6 q (FA h)

theorem f93_c{t0:aj}{r:Bool}(h:f93 t0=some r):Pu prog 93 [.ag (R38 t0)] (.b r):=by
 unfold f93 at h
 refine fI func93 λ_ _=>?_
 refine Rcl 2 q (Bd q q (Zs _) q (Rll 8 q (Zq (ac bq t0.handlers e29 q q Zl) q (Rlc 3 q (Ci h q (λh=>?_) λh=>?_)))))
 exact Rcx 7 q (FA h)
 refine Rcc 2 q (Jn0 [] [] h (λm h=>?_) λh=>?_)
 refine Rcc 6 q (Ln1 (λa=> [(1, .d (.pc (R38 t0))),(3, .n a)]) (λ_=> []) (f93_l1 t0 m) h (λ_ h=>by rw[f93_l1] at h;cases h) λn a h=>?_)
 rw[f93_l1] at h
 refine Rcl 6 q (Zq (ac bq t0.handlers e29 q q Zl) q (Rlc 3 q (Ci h q (λh=>?_) λh=>?_)))
 refine Rcc 2 q (Jn4 (λ_ _ _ _=> [(1, .d (.pc (R38 t0))),(3, .n a)]) (λf g j k=> [.row 108 [.n f, .n g, .n j, .d (D.b k)]]) h (λp h=>?_) λf g j k h=>?_)
 refine Rcl 6 q (Ix h e29 eK q Zl q q λc _ h=>(Rl 1 q (Al mW q (sS Z6 qb Z2 (Rll 9 q ?_)))))
 refine OG 6 28 34 6 6 ?_
 refine Rl 1 q ?_
 apply WL.or 7 (t:=35) (d:=42)
 exact q
 intro w
 exact Rl 4 q (Zy (ac E45 t0.insns e23 q q Zl) q q q (Rl 2 q (WL.nil ⟨q,[_,_,_,_,_,_,_],q,q,q⟩)))
 exact Rn 7 7
 refine Rl 1 q ?_
 apply WL.or 6 (t:=43) (d:=49)
 exact q
 intro x
 exact Rl 3 q (WL.fn q q q q (f30_c) Lw (aU q q q) q q (Rl 2 q (WL.nil ⟨q,[_,_,_,_,_,_],q,q,q⟩)))
 exact Rn 6 6
 refine Rl 1 q ?_
 apply WL.or 13 (t:=50) (d:=63)
 exact q
 intro y
 refine Rl 6 q ?_
 refine AG 6 56 62 6 6 ?_
 exact Rn 1 8
 exact Rn 13 13
 refine Rlc 2 q (Ci h q (λh=>Rcx 12 q (FA h)) λh=>?_)
 refine Rcc 8 q (Ln1 (λe=> [(1, .d (.pc (R38 t0))),(3, .n a),(4, .pt 0 0),(5, .n e)]) (λ_=> [.row 108 [.n c.from_, .n c.to, .n c.at_, .d (D.b c.clean)]]) (f93_l2 t0 a p c) h (λ_ h=>by rw[f93_l2] at h;cases h) λna e h=>?_)
 rw[f93_l2] at h
 refine Rcc 8 q (Ci h q (λh=>?_) λh=>?_)
 refine Rcl 9 q (Ix h e29 eK q Zl q q λA _ h=>(Rl 1 q (Al mW q (sS Z6 qb Z2 (Rll 10 q ?_)))))
 refine AG 6 79 85 6 6 ?_
 refine Rll 11 q ?_
 refine OG 6 91 97 6 6 ?_
 refine Rll 8 q ?_
 refine AG 3 100 103 3 3 ?_
 refine Rlc 2 q (Ci h q (λh=>Rcx 15 q (FA h)) λh=>?_)
 exact Rcx 8 q (WE.drop 1 (env':=[(1, .d (.pc (R38 t0))),(3, .n a),(4, .pt 0 0),(5, .n (IntKind.i64.wrap (e+1)))]) Sb q q (Nat.zero_le _) (Fn1 h))
 exact Rcx 5 q (En4 h)
 exact Rcx 5 q (WE.drop 0 (env':=[(1, .d (.pc (R38 t0))),(3, .n (IntKind.i64.wrap (a+1)))]) Sb q q (Nat.zero_le _) (Fn1 h))
 exact Rcx 4 q (En0 h)
 exact Rcx 6 q (FA h)

theorem f94_c{t0:aj}{r:Bool}(h:f94 t0=some r):Pu prog 94 [.ag (R38 t0)] (.b r):=by
 unfold f94 at h
 refine fI func94 λ_ _=>?_
 refine Rcl 2 q (Bd q q (Zs _) q (Rll 8 q (Zq (ac bT t0.loops e30 q q Zl) q (Rlc 3 q (Ci h q (λh=>?_) λh=>?_)))))
 exact Rcx 7 q (FA h)
 refine Rcc 2 q (Jn0 [] [] h (λG h=>?_) λh=>?_)
 refine Rcc 6 q (Ln1 (λe=> [(1, .d (.pc (R38 t0))),(3, .n e)]) (λ_=> []) (f94_l1 t0 G) h (λ_ h=>by rw[f94_l1] at h;cases h) λn e h=>?_)
 rw[f94_l1] at h
 refine Rcl 6 q (Zq (ac bT t0.loops e30 q q Zl) q (Rlc 3 q (Ci h q (λh=>?_) λh=>?_)))
 refine Rcc 2 q (Jn10 (λ_ _ _ _ _ _ _ _ _ _=> [(1, .d (.pc (R38 t0))),(3, .n e)]) (λg j k p w x y A B C=> [.row 189 [.n g, .n j, .n k], .row 45 [.d (D.i .u8 p), .n w, .n x, .n y, .n A, .n B, .n C]]) h (λH h=>?_) λg j k p w x y A B C h=>?_)
 refine Rcl 6 q (Ix h e30 ou q Zl q q λf _ h=>(Rl 1 q (Al z189 q (sS Z6 s189 Z2 (Rll 8 q (wF Z4 (f30_c) Lw Z3 (Rl 2 q ?_)))))))
 apply WL.or 6 (t:=28) (d:=34)
 exact q
 intro I
 exact Rl 3 q (WL.fn q q q q (f30_c) Lw (aU q q q) q q (Rl 2 q (WL.nil ⟨q,[_,_,_,_,_,_],q,q,q⟩)))
 exact Rn 6 6
 refine Rl 1 q ?_
 refine OG 6 35 41 6 6 ?_
 refine Rl 1 q ?_
 refine OG 4 42 46 4 4 ?_
 refine Rl 1 q ?_
 refine OG 4 47 51 4 4 ?_
 refine Rlc 2 q (Ci h q (λh=>Rcx 12 q (FA h)) λh=>?_)
 refine Rcl 8 q (Ix h e23 dr q Zl q q λc _ h=>(Rl 1 q (Al z45 q (sS Z6 s45 Z2 (Rll 9 q ?_)))))
 refine AG 4 61 65 4 4 ?_
 refine Rl 1 q ?_
 refine AG 4 66 70 4 4 ?_
 refine Rl 1 q ?_
 refine OG 6 71 77 6 6 ?_
 refine Rlc 2 q (Ci h q (λh=>Rcx 12 q (FA h)) λh=>?_)
 refine Rcc 8 q (Ln1 (λE=> [(1, .d (.pc (R38 t0))),(3, .n e),(4, .pt 0 0),(6, .n E)]) (λ_=> [.row 189 [.n f.head, .n f.back, .n f.bound], .row 45 [.d (D.i .u8 c.op), .n c.d, .n c.a, .n c.b, .n c.n, .n c.m, .n c.to]]) (f94_l2 t0 e n H f c) h (λ_ h=>by rw[f94_l2] at h;cases h) λna E h=>?_)
 rw[f94_l2] at h
 refine Rcc 8 q (Ci h q (λh=>?_) λh=>?_)
 refine Rcc 5 q (ao kR kR (Rq 3 q ?_))
 obtain⟨J,F,h⟩:=ab h
 refine WQ.qn (ai e30 q Zl q (ae F) (az ou F) q) q (Rq 5 q (WQ.nil (Rxc 1 q (Ci h q (λh=>?_) λh=>?_))))
 exact Rcx 15 q (FA h)
 exact Rcx 8 q (Fn1 h)
 exact Rcx 5 q (cG ⟨_,_,_,_,_,_,_,_,_,_,h,Sb,Tv⟩)
 exact Rcx 5 q (WE.drop 0 (env':=[(1, .d (.pc (R38 t0))),(3, .n (IntKind.i64.wrap (e+1)))]) Sb q q (Nat.zero_le _) (Fn1 h))
 exact Rcx 4 q (En0 h)
 exact Rcx 6 q (FA h)

theorem f201_c:Pu prog 201 [] (.sl (List.map u6 (f201 ))):=by
 generalize h:f201=r
 unfold f201 at h
 refine fI func201 λ_ _=>?_
 refine Rcl 7 q (Zq (aa aN aw q q) q (Zq (aa aN aw q q) q (WL.s ((NewOs.b (af cw aw q dC dC q q q dC)).does) (Zw q) q q ?_)))
 refine WL.freezeX [3] [] 0 _ q (al aL [fD 68 0 15,fD 78 (-9223372036854775808) 9223372036854775807]) ⟨q,Zt⟩ Zt (Zq (aa cg bV q q) q (Zq (aa aN aw q q) q (Zq (aa aN aw q q) q (WL.s ((NewOs.b (af cw aw q dC dC q q q dC)).does) (Zw q) q q ?_))))
 refine WL.freezeX [7] [] 1 _ q (al aL [fD 68 0 15,fD 65 0 15]) ⟨q,Zt⟩ Zt (Zq (aa cg bV q q) q (Zq (aa aN aw q q) q (Zq (aa aN aw q q) q (Zq (aa aN aw q q) q (WL.s ((NewOs.b (af cw aw q dC dC q q q dC)).does) (Zw q) q q ?_)))))
 refine WL.freezeX [12] [] 2 _ q (al aL [fD 68 0 15,fD 78 0 4095,fD 77 0 65535]) ⟨q,Zt⟩ Zt (Zq (aa cg bV q q) q (Zq (aa aN aw q q) q (Zq (aa aN aw q q) q (Zq (aa aN aw q q) q (WL.s ((NewOs.b (af cw aw q dC dC q q q dC)).does) (Zw q) q q ?_)))))
 refine WL.freezeX [17] [] 3 _ q (al aL [fD 65 0 15,fD 78 0 4095,fD 77 0 65535]) ⟨q,Zt⟩ Zt (Zq (aa cg bV q q) q (Zq (aa aN aw q q) q (Zq (aa aN aw q q) q (Zq (aa aN aw q q) q (Zq (aa aN aw q q) q (Zq (aa aN aw q q) q (WL.s ((NewOs.b (af cw aw q dC dC q q q dC)).does) (Zw q) q q ?_)))))))
 refine WL.freezeX [24] [] 4 _ q (al aL [fD 68 0 15,fD 65 0 15,fD 66 1 65536,fD 78 0 4095,fD 77 0 65535]) ⟨q,Zt⟩ Zt (Zq (aa cg bV q q) q (Zq (aa aN aw q q) q (Zq (aa aN aw q q) q (Zq (aa aN aw q q) q (Zq (aa aN aw q q) q (Zq (aa aN aw q q) q (WL.s ((NewOs.b (af cw aw q dC dC q q q dC)).does) (Zw q) q q ?_)))))))
 refine WL.freezeX [31] [] 5 _ q (al aL [fD 68 0 15,fD 65 0 15,fD 66 1 65536,fD 78 0 4095,fD 77 0 65535]) ⟨q,Zt⟩ Zt (Zq (aa cg bV q q) q (Zq (aa aN aw q q) q (Zq (aa aN aw q q) q (WL.s ((NewOs.b (af cw aw q dC dC q q q dC)).does) (Zw q) q q ?_))))
 refine WL.freezeX [35] [] 6 _ q (al aL [fD 68 0 15,fD 65 0 15]) ⟨q,Zt⟩ Zt (Zq (aa cg bV q q) q (Zq (aa aN aw q q) q (Zq (aa aN aw q q) q (WL.s ((NewOs.b (af cw aw q dC dC q q q dC)).does) (Zw q) q q ?_))))
 refine WL.freezeX [39] [] 7 _ q (al aL [fD 68 0 15,fD 65 0 15]) ⟨q,Zt⟩ Zt (Zq (aa cg bV q q) q (Zq (aa aN aw q q) q (Zq (aa aN aw q q) q (Zq (aa aN aw q q) q (WL.s ((NewOs.b (af cw aw q dC dC q q q dC)).does) (Zw q) q q ?_)))))
 refine WL.freezeX [44] [] 8 _ q (al aL [fD 68 0 15,fD 65 0 15,fD 66 0 15]) ⟨q,Zt⟩ Zt (Zq (aa cg bV q q) q (Zq (aa aN aw q q) q (Zq (aa aN aw q q) q (Zq (aa aN aw q q) q (WL.s ((NewOs.b (af cw aw q dC dC q q q dC)).does) (Zw q) q q ?_)))))
 refine WL.freezeX [49] [] 9 _ q (al aL [fD 68 0 15,fD 65 0 15,fD 66 0 15]) ⟨q,Zt⟩ Zt (Zq (aa cg bV q q) q (Zq (aa aN aw q q) q (Zq (aa aN aw q q) q (Zq (aa aN aw q q) q (WL.s ((NewOs.b (af cw aw q dC dC q q q dC)).does) (Zw q) q q ?_)))))
 refine WL.freezeX [54] [] 10 _ q (al aL [fD 68 0 15,fD 65 0 15,fD 66 0 15]) ⟨q,Zt⟩ Zt (Zq (aa cg bV q q) q (Zq (aa aN aw q q) q (Zq (aa aN aw q q) q (Zq (aa aN aw q q) q (WL.s ((NewOs.b (af cw aw q dC dC q q q dC)).does) (Zw q) q q ?_)))))
 refine WL.freezeX [59] [] 11 _ q (al aL [fD 68 0 15,fD 65 0 15,fD 66 0 15]) ⟨q,Zt⟩ Zt (Zq (aa cg bV q q) q (Zq (aa aN aw q q) q (Zq (aa aN aw q q) q (Zq (aa aN aw q q) q (WL.s ((NewOs.b (af cw aw q dC dC q q q dC)).does) (Zw q) q q ?_)))))
 refine WL.freezeX [64] [] 12 _ q (al aL [fD 68 0 15,fD 65 0 15,fD 66 0 15]) ⟨q,Zt⟩ Zt (Zq (aa cg bV q q) q (Zq (aa aN aw q q) q (Zq (aa aN aw q q) q (Zq (aa aN aw q q) q (WL.s ((NewOs.b (af cw aw q dC dC q q q dC)).does) (Zw q) q q ?_)))))
 refine WL.freezeX [69] [] 13 _ q (al aL [fD 68 0 15,fD 65 0 15,fD 66 0 15]) ⟨q,Zt⟩ Zt (Zq (aa cg bV q q) q (Zq (aa aN aw q q) q (Zq (aa aN aw q q) q (Zq (aa aN aw q q) q (WL.s ((NewOs.b (af cw aw q dC dC q q q dC)).does) (Zw q) q q ?_)))))
 refine WL.freezeX [74] [] 14 _ q (al aL [fD 68 0 15,fD 65 0 15,fD 66 0 15]) ⟨q,Zt⟩ Zt (Zq (aa cg bV q q) q (Zq (aa aN aw q q) q (Zq (aa aN aw q q) q (Zq (aa aN aw q q) q (WL.s ((NewOs.b (af cw aw q dC dC q q q dC)).does) (Zw q) q q ?_)))))
 refine WL.freezeX [79] [] 15 _ q (al aL [fD 68 0 15,fD 65 0 15,fD 66 0 15]) ⟨q,Zt⟩ Zt (Zq (aa cg bV q q) q (Zq (aa aN aw q q) q (Zq (aa aN aw q q) q (Zq (aa aN aw q q) q (WL.s ((NewOs.b (af cw aw q dC dC q q q dC)).does) (Zw q) q q ?_)))))
 refine WL.freezeX [84] [] 16 _ q (al aL [fD 68 0 15,fD 65 0 15,fD 66 0 15]) ⟨q,Zt⟩ Zt (Zq (aa cg bV q q) q (Zq (aa aN aw q q) q (Zq (aa aN aw q q) q (Zq (aa aN aw q q) q (WL.s ((NewOs.b (af cw aw q dC dC q q q dC)).does) (Zw q) q q ?_)))))
 refine WL.freezeX [89] [] 17 _ q (al aL [fD 68 0 15,fD 65 0 15,fD 66 0 15]) ⟨q,Zt⟩ Zt (Zq (aa cg bV q q) q (Zq (aa aN aw q q) q (Zq (aa aN aw q q) q (Zq (aa aN aw q q) q (WL.s ((NewOs.b (af cw aw q dC dC q q q dC)).does) (Zw q) q q ?_)))))
 refine WL.freezeX [94] [] 18 _ q (al aL [fD 68 0 15,fD 65 0 15,fD 66 0 15]) ⟨q,Zt⟩ Zt (Zq (aa cg bV q q) q (Zq (aa aN aw q q) q (Zq (aa aN aw q q) q (Zq (aa aN aw q q) q (WL.s ((NewOs.b (af cw aw q dC dC q q q dC)).does) (Zw q) q q ?_)))))
 refine WL.freezeX [99] [] 19 _ q (al aL [fD 68 0 15,fD 65 0 15,fD 66 0 15]) ⟨q,Zt⟩ Zt (Zq (aa cg bV q q) q (Zq (aa aN aw q q) q (Zq (aa aN aw q q) q (Zq (aa aN aw q q) q (WL.s ((NewOs.b (af cw aw q dC dC q q q dC)).does) (Zw q) q q ?_)))))
 refine WL.freezeX [104] [] 20 _ q (al aL [fD 68 0 15,fD 65 0 15,fD 66 0 15]) ⟨q,Zt⟩ Zt (Zq (aa cg bV q q) q (Zq (aa aN aw q q) q (Zq (aa aN aw q q) q (Zq (aa aN aw q q) q (WL.s ((NewOs.b (af cw aw q dC dC q q q dC)).does) (Zw q) q q ?_)))))
 refine WL.freezeX [109] [] 21 _ q (al aL [fD 68 0 15,fD 65 0 15,fD 66 0 15]) ⟨q,Zt⟩ Zt (Zq (aa cg bV q q) q (Zq (aa aN aw q q) q (Zq (aa aN aw q q) q (Zq (aa aN aw q q) q (WL.s ((NewOs.b (af cw aw q dC dC q q q dC)).does) (Zw q) q q ?_)))))
 refine WL.freezeX [114] [] 22 _ q (al aL [fD 68 0 15,fD 65 0 15,fD 66 0 15]) ⟨q,Zt⟩ Zt (Zq (aa cg bV q q) q (Zq (aa aN aw q q) q (Zq (aa aN aw q q) q (WL.s ((NewOs.b (af cw aw q dC dC q q q dC)).does) (Zw q) q q ?_))))
 refine WL.freezeX [118] [] 23 _ q (al aL [fD 68 0 15,fD 65 0 15]) ⟨q,Zt⟩ Zt (Zq (aa cg bV q q) q (Zq (aa aN aw q q) q (Zq (aa aN aw q q) q (WL.s ((NewOs.b (af cw aw q dC dC q q q dC)).does) (Zw q) q q ?_))))
 refine WL.freezeX [122] [] 24 _ q (al aL [fD 68 0 15,fD 65 0 15]) ⟨q,Zt⟩ Zt (Zq (aa cg bV q q) q (Zq (aa aN aw q q) q (Zq (aa aN aw q q) q (WL.s ((NewOs.b (af cw aw q dC dC q q q dC)).does) (Zw q) q q ?_))))
 refine WL.freezeX [126] [] 25 _ q (al aL [fD 68 0 15,fD 65 0 15]) ⟨q,Zt⟩ Zt (Zq (aa cg bV q q) q (Zq (aa aN aw q q) q (Zq (aa aN aw q q) q (Zq (aa aN aw q q) q (WL.s ((NewOs.b (af cw aw q dC dC q q q dC)).does) (Zw q) q q ?_)))))
 refine WL.freezeX [131] [] 26 _ q (al aL [fD 65 0 15,fD 78 (-9223372036854775808) 9223372036854775807,fD 77 (-9223372036854775808) 9223372036854775807]) ⟨q,Zt⟩ Zt (Zq (aa cg bV q q) q (Zq (aa aN aw q q) q (WL.s ((NewOs.b (af cw aw q dC dC q q q dC)).does) (Zw q) q q ?_)))
 refine WL.freezeX [134] [] 27 _ q (al aL [fD 65 0 15]) ⟨q,Zt⟩ Zt (Zq (aa cg bV q q) q (Zq (aa aN aw q q) q (WL.s ((NewOs.b (af cw aw q dC dC q q q dC)).does) (Zw q) q q ?_)))
 refine WL.freezeX [137] [] 28 _ q (al aL [fD 84 0 65535]) ⟨q,Zt⟩ Zt (Zq (aa cg bV q q) q (Zq (aa aN aw q q) q (Zq (aa aN aw q q) q (WL.s ((NewOs.b (af cw aw q dC dC q q q dC)).does) (Zw q) q q ?_))))
 refine WL.freezeX [141] [] 29 _ q (al aL [fD 65 0 15,fD 84 0 65535]) ⟨q,Zt⟩ Zt (Zq (aa cg bV q q) q (Zq (aa aN aw q q) q (Zq (aa aN aw q q) q (WL.s ((NewOs.b (af cw aw q dC dC q q q dC)).does) (Zw q) q q ?_))))
 refine WL.freezeX [145] [] 30 _ q (al aL [fD 65 0 15,fD 84 0 65535]) ⟨q,Zt⟩ Zt (Zq (aa cg bV q q) q (Zq (aa aN aw q q) q (Zq (aa aN aw q q) q (Zq (aa aN aw q q) q (Zq (aa aN aw q q) q (WL.s ((NewOs.b (af cw aw q dC dC q q q dC)).does) (Zw q) q q ?_))))))
 refine WL.freezeX [151] [] 31 _ q (al aL [fD 65 0 15,fD 78 (-9223372036854775808) 9223372036854775807,fD 77 1 65536,fD 84 0 65535]) ⟨q,Zt⟩ Zt (Zq (aa cg bV q q) q (Zq (aa aN aw q q) q (WL.s ((NewOs.b (af cw aw q dC dC q q q dC)).does) (Zw q) q q ?_)))
 refine WL.freezeX [154] [] 32 _ q (al aL [fD 78 1 64]) ⟨q,Zt⟩ Zt (Zq (aa cg bV q q) q (Zq (aa aN aw q q) q (WL.s ((NewOs.b (af cw aw q dC dC q q q dC)).does) (Zw q) q q ?_)))
 refine WL.freezeX [157] [] 33 _ q (al aL [fD 65 0 15]) ⟨q,Zt⟩ Zt (Zq (aa cg bV q q) q (Zq (aa aN aw q q) q (WL.s ((NewOs.b (af cw aw q dC dC q q q dC)).does) (Zw q) q q ?_)))
 refine WL.freezeX [160] [] 34 _ q (al aL [fD 65 0 15]) ⟨q,Zt⟩ Zt (Zq (aa cg bV q q) q (Zq (aa aN aw q q) q (WL.s ((NewOs.b (af cw aw q dC dC q q q dC)).does) (Zw q) q q ?_)))
 refine WL.freezeX [163] [] 35 _ q (al aL [fD 68 0 15]) ⟨q,Zt⟩ Zt (Zq (aa cg bV q q) q (Zq (aa aN aw q q) q (Zq (aa aN aw q q) q (WL.s ((NewOs.b (af cw aw q dC dC q q q dC)).does) (Zw q) q q ?_))))
 refine WL.freezeX [167] [] 36 _ q (al aL [fD 78 6 7,fD 77 0 65535]) ⟨q,Zt⟩ Zt (Zq (aa cg bV q q) q (Zq (aa aN aw q q) q (WL.s ((NewOs.b (af cw aw q dC dC q q q dC)).does) (Zw q) q q ?_)))
 refine WL.freezeX [170] [] 37 _ q (al aL [fD 68 0 15]) ⟨q,Zt⟩ Zt (Zq (aa cg bV q q) q (Zq (aa aN aw q q) q (WL.s ((NewOs.b (af cw aw q dC dC q q q dC)).does) (Zw q) q q ?_)))
 refine WL.freezeX [173] [] 38 _ q (al aL [fD 65 0 15]) ⟨q,Zt⟩ Zt (Zq (aa cg bV q q) q (Zq (aa cg bV q q) q (Zq (aa cg bV q q) q (Zq (aa aN aw q q) q (WL.s ((NewOs.b (af cw aw q dC dC q q q dC)).does) (Zw q) q q ?_)))))
 refine WL.freezeX [178] [] 39 _ q (al aL [fD 68 0 15]) ⟨q,Zt⟩ Zt (Zq (aa cg bV q q) q (Zq (aa aN aw q q) q (Zq (aa aN aw q q) q (Zq (aa aN aw q q) q (WL.s ((NewOs.b (af cw aw q dC dC q q q dC)).does) (Zw q) q q ?_)))))
 refine WL.freezeX [183] [] 40 _ q (al aL [fD 68 0 15,fD 78 0 7,fD 77 (-1) 31]) ⟨q,Zt⟩ Zt (Zq (aa cg bV q q) q (Zq (aa aN aw q q) q (WL.s ((NewOs.b (af cw aw q dC dC q q q dC)).does) (Zw q) q q ?_)))
 refine WL.freezeX [186] [] 41 _ q (al aL [fD 78 0 65535]) ⟨q,Zt⟩ Zt (Zq (aa cg bV q q) q (Zq (aa aN aw q q) q (WL.s ((NewOs.b (af cw aw q dC dC q q q dC)).does) (Zw q) q q ?_)))
 refine WL.freezeX [189] [] 42 _ q (al aL [fD 78 0 65535]) ⟨q,Zt⟩ Zt (Zq (aa cg bV q q) q (Zq (aa aN aw q q) q (Zq (aa aN aw q q) q (WL.s ((NewOs.b (af cw aw q dC dC q q q dC)).does) (Zw q) q q ?_))))
 refine WL.freezeX [193] [] 43 _ q (al aL [fD 65 0 15,fD 78 0 65535]) ⟨q,Zt⟩ Zt (Zq (aa cg bV q q) q (Zq (aa aN aw q q) q (WL.s ((NewOs.b (af cw aw q dC dC q q q dC)).does) (Zw q) q q ?_)))
 refine WL.freezeX [196] [] 44 _ q (al aL [fD 65 0 15]) ⟨q,Zt⟩ Zt (Zq (aa cg bV q q) q (Zq (aa aN aw q q) q (WL.s ((NewOs.b (af cw aw q dC dC q q q dC)).does) (Zw q) q q ?_)))
 refine WL.freezeX [199] [] 45 _ q (al aL [fD 65 0 15]) ⟨q,Zt⟩ Zt (Zq (aa cg bV q q) q (Zq (aa aN aw q q) q (Zq (aa aN aw q q) q (Zq (aa aN aw q q) q (Zq (aa aN aw q q) q (Zq (aa aN aw q q) q (WL.s ((NewOs.b (af cw aw q dC dC q q q dC)).does) (Zw q) q q ?_)))))))
 refine WL.freezeX [206] [] 46 _ q (al aL [fD 68 0 15,fD 65 0 31,fD 66 0 7,fD 78 0 4095,fD 77 0 3]) ⟨q,Zt⟩ Zt (Zq (aa cg bV q q) q (Zq (aa aN aw q q) q (WL.s ((NewOs.b (af cw aw q dC dC q q q dC)).does) (Zw q) q q ?_)))
 refine WL.freezeX [209] [] 47 _ q (al aL [fD 78 0 1023]) ⟨q,Zt⟩ Zt (Zq (aa cg bV q q) q (Zq (aa aN aw q q) q (WL.s ((NewOs.b (af cw aw q dC dC q q q dC)).does) (Zw q) q q ?_)))
 refine WL.freezeX [212] [] 48 _ q (al aL [fD 78 0 1]) ⟨q,Zt⟩ Zt (Zq (aa cg bV q q) q (Zq (aa aN aw q q) q (Zq (aa aN aw q q) q (Zq (aa aN aw q q) q (Zq (aa aN aw q q) q (WL.s ((NewOs.b (af cw aw q dC dC q q q dC)).does) (Zw q) q q ?_))))))
 refine WL.freezeX [218] [] 49 _ q (al aL [fD 65 0 31,fD 66 0 7,fD 78 0 1,fD 84 0 65535]) ⟨q,Zt⟩ Zt (Zq (aa cg bV q q) q (Zq (aa aN aw q q) q (WL.s ((NewOs.b (af cw aw q dC dC q q q dC)).does) (Zw q) q q ?_)))
 refine WL.freezeX [221] [] 50 _ q (al aL [fD 78 0 31]) ⟨q,Zt⟩ Zt (Zq (aa cg bV q q) q (Zq (aa aN aw q q) q (Zq (aa aN aw q q) q (Zq (aa aN aw q q) q (Zq (aa aN aw q q) q (Zq (aa aN aw q q) q (WL.s ((NewOs.b (af cw aw q dC dC q q q dC)).does) (Zw q) q q ?_)))))))
 refine WL.freezeX [228] [] 51 _ q (al aL [fD 68 0 15,fD 65 0 15,fD 66 0 3,fD 78 0 31,fD 77 0 7]) ⟨q,Zt⟩ Zt (Zq (aa cg bV q q) q (Zq (aa aN aw q q) q (WL.s ((NewOs.b (af cw aw q dC dC q q q dC)).does) (Zw q) q q ?_)))
 refine WL.freezeX [231] [] 52 _ q (al aL [fD 78 0 31]) ⟨q,Zt⟩ Zt (Zq (aa cg bV q q) q (Zq (aa aN aw q q) q (WL.s ((NewOs.b (af cw aw q dC dC q q q dC)).does) (Zw q) q q ?_)))
 refine WL.freezeX [234] [] 53 _ q (al aL [fD 78 0 65535]) ⟨q,Zt⟩ Zt (Zq (aa cg bV q q) q (Zq (aa cg bV q q) q ?_))
 refine WL.s ((NewOs.b (NewOs.weak (es':=List.map (ba u4) [(Row.mk 1 (bA #[108,105]) [fD 68 0 15,fD 78 (-9223372036854775808) 9223372036854775807]),(Row.mk 2 (bA #[109,118]) [fD 68 0 15,fD 65 0 15]),(Row.mk 3 (bA #[108,100]) [fD 68 0 15,fD 78 0 4095,fD 77 0 65535]),(Row.mk 4 (bA #[115,116]) [fD 65 0 15,fD 78 0 4095,fD 77 0 65535]),(Row.mk 5 (bA #[108,100,120]) [fD 68 0 15,fD 65 0 15,fD 66 1 65536,fD 78 0 4095,fD 77 0 65535]),(Row.mk 6 (bA #[115,116,120]) [fD 68 0 15,fD 65 0 15,fD 66 1 65536,fD 78 0 4095,fD 77 0 65535]),(Row.mk 7 (bA #[108,100,97]) [fD 68 0 15,fD 65 0 15]),(Row.mk 8 (bA #[115,116,97]) [fD 68 0 15,fD 65 0 15]),(Row.mk 9 (bA #[97,100,100]) [fD 68 0 15,fD 65 0 15,fD 66 0 15]),(Row.mk 10 (bA #[115,117,98]) [fD 68 0 15,fD 65 0 15,fD 66 0 15]),(Row.mk 11 (bA #[109,117,108]) [fD 68 0 15,fD 65 0 15,fD 66 0 15]),(Row.mk 12 (bA #[100,105,118]) [fD 68 0 15,fD 65 0 15,fD 66 0 15]),(Row.mk 13 (bA #[114,101,109]) [fD 68 0 15,fD 65 0 15,fD 66 0 15]),(Row.mk 14 (bA #[109,111,100]) [fD 68 0 15,fD 65 0 15,fD 66 0 15]),(Row.mk 15 (bA #[101,113]) [fD 68 0 15,fD 65 0 15,fD 66 0 15]),(Row.mk 16 (bA #[110,101]) [fD 68 0 15,fD 65 0 15,fD 66 0 15]),(Row.mk 17 (bA #[108,116]) [fD 68 0 15,fD 65 0 15,fD 66 0 15]),(Row.mk 18 (bA #[108,101]) [fD 68 0 15,fD 65 0 15,fD 66 0 15]),(Row.mk 19 (bA #[103,116]) [fD 68 0 15,fD 65 0 15,fD 66 0 15]),(Row.mk 20 (bA #[103,101]) [fD 68 0 15,fD 65 0 15,fD 66 0 15]),(Row.mk 21 (bA #[97,110,100]) [fD 68 0 15,fD 65 0 15,fD 66 0 15]),(Row.mk 22 (bA #[111,114]) [fD 68 0 15,fD 65 0 15,fD 66 0 15]),(Row.mk 23 (bA #[120,111,114]) [fD 68 0 15,fD 65 0 15,fD 66 0 15]),(Row.mk 24 (bA #[110,101,103]) [fD 68 0 15,fD 65 0 15]),(Row.mk 25 (bA #[97,98,115]) [fD 68 0 15,fD 65 0 15]),(Row.mk 26 (bA #[110,111,116]) [fD 68 0 15,fD 65 0 15]),(Row.mk 27 (bA #[99,104,107]) [fD 65 0 15,fD 78 (-9223372036854775808) 9223372036854775807,fD 77 (-9223372036854775808) 9223372036854775807]),(Row.mk 28 (bA #[99,104,107,122]) [fD 65 0 15]),(Row.mk 29 (bA #[106,109,112]) [fD 84 0 65535]),(Row.mk 30 (bA #[106,122]) [fD 65 0 15,fD 84 0 65535]),(Row.mk 31 (bA #[106,110,122]) [fD 65 0 15,fD 84 0 65535]),(Row.mk 32 (bA #[106,116]) [fD 65 0 15,fD 78 (-9223372036854775808) 9223372036854775807,fD 77 1 65536,fD 84 0 65535]),(Row.mk 33 (bA #[114,97,105,115,101]) [fD 78 1 64]),(Row.mk 34 (bA #[114,97,105,115,101,114]) [fD 65 0 15]),(Row.mk 35 (bA #[99,111,110,116]) [fD 65 0 15]),(Row.mk 36 (bA #[101,120,99]) [fD 68 0 15]),(Row.mk 37 (bA #[109,97,114,107]) [fD 78 6 7,fD 77 0 65535]),(Row.mk 38 (bA #[103,101,116]) [fD 68 0 15]),(Row.mk 39 (bA #[112,117,116]) [fD 65 0 15]),(Row.mk 40 (bA #[100,101,102,101,114]) []),(Row.mk 41 (bA #[97,108,108,111,119]) []),(Row.mk 42 (bA #[99,108,111,99,107]) [fD 68 0 15]),(Row.mk 43 (bA #[99,111,117,110,116]) [fD 68 0 15,fD 78 0 7,fD 77 (-1) 31]),(Row.mk 44 (bA #[115,116,97,114,116]) [fD 78 0 65535]),(Row.mk 45 (bA #[110,101,118,101,114]) [fD 78 0 65535]),(Row.mk 46 (bA #[97,119,97,105,116]) [fD 65 0 15,fD 78 0 65535]),(Row.mk 47 (bA #[100,101,108,97,121]) [fD 65 0 15]),(Row.mk 48 (bA #[117,110,116,105,108]) [fD 65 0 15]),(Row.mk 49 (bA #[99,97,108,108]) [fD 68 0 15,fD 65 0 31,fD 66 0 7,fD 78 0 4095,fD 77 0 3]),(Row.mk 50 (bA #[115,101,108]) [fD 78 0 1023]),(Row.mk 51 (bA #[100,111,110,101]) [fD 78 0 1]),(Row.mk 52 (bA #[114,101,113]) [fD 65 0 31,fD 66 0 7,fD 78 0 1,fD 84 0 65535]),(Row.mk 53 (bA #[108,111,99,107]) [fD 78 0 31]),(Row.mk 54 (bA #[112,101,110,116]) [fD 68 0 15,fD 65 0 15,fD 66 0 3,fD 78 0 31,fD 77 0 7]),(Row.mk 55 (bA #[117,110,108,111,99,107]) [fD 78 0 31]),(Row.mk 56 (bA #[97,98,111,114,116]) [fD 78 0 65535]),(Row.mk 57 (bA #[101,110,100]) [])]) (af l270 bV q dC dC q q q dC) (by exact⟨Lw,Lw,Lw,Lw,Lw,Lw,Lw,Lw,Lw,Lw,Lw,Lw,Lw,Lw,Lw,Lw,Lw,Lw,Lw,Lw,Lw,Lw,Lw,Lw,Lw,Lw,Lw,Lw,Lw,Lw,Lw,Lw,Lw,Lw,Lw,Lw,Lw,Lw,Lw,⟨Zl,Zl,Le.nil,Zt⟩,⟨Zl,Zl,Le.nil,Zt⟩,Lw,Lw,Lw,Lw,Lw,Lw,Lw,Lw,Lw,Lw,Lw,Lw,Lw,Lw,Lw,⟨Zl,Zl,Le.nil,Zt⟩,Zt⟩))).does) (Zw q) q q ?_
 refine Rlx 4 q ?_
 refine WE.freezeX [0,237] [] 54 _ q (al oq [(Row.mk 1 (bA #[108,105]) [fD 68 0 15,fD 78 (-9223372036854775808) 9223372036854775807]),(Row.mk 2 (bA #[109,118]) [fD 68 0 15,fD 65 0 15]),(Row.mk 3 (bA #[108,100]) [fD 68 0 15,fD 78 0 4095,fD 77 0 65535]),(Row.mk 4 (bA #[115,116]) [fD 65 0 15,fD 78 0 4095,fD 77 0 65535]),(Row.mk 5 (bA #[108,100,120]) [fD 68 0 15,fD 65 0 15,fD 66 1 65536,fD 78 0 4095,fD 77 0 65535]),(Row.mk 6 (bA #[115,116,120]) [fD 68 0 15,fD 65 0 15,fD 66 1 65536,fD 78 0 4095,fD 77 0 65535]),(Row.mk 7 (bA #[108,100,97]) [fD 68 0 15,fD 65 0 15]),(Row.mk 8 (bA #[115,116,97]) [fD 68 0 15,fD 65 0 15]),(Row.mk 9 (bA #[97,100,100]) [fD 68 0 15,fD 65 0 15,fD 66 0 15]),(Row.mk 10 (bA #[115,117,98]) [fD 68 0 15,fD 65 0 15,fD 66 0 15]),(Row.mk 11 (bA #[109,117,108]) [fD 68 0 15,fD 65 0 15,fD 66 0 15]),(Row.mk 12 (bA #[100,105,118]) [fD 68 0 15,fD 65 0 15,fD 66 0 15]),(Row.mk 13 (bA #[114,101,109]) [fD 68 0 15,fD 65 0 15,fD 66 0 15]),(Row.mk 14 (bA #[109,111,100]) [fD 68 0 15,fD 65 0 15,fD 66 0 15]),(Row.mk 15 (bA #[101,113]) [fD 68 0 15,fD 65 0 15,fD 66 0 15]),(Row.mk 16 (bA #[110,101]) [fD 68 0 15,fD 65 0 15,fD 66 0 15]),(Row.mk 17 (bA #[108,116]) [fD 68 0 15,fD 65 0 15,fD 66 0 15]),(Row.mk 18 (bA #[108,101]) [fD 68 0 15,fD 65 0 15,fD 66 0 15]),(Row.mk 19 (bA #[103,116]) [fD 68 0 15,fD 65 0 15,fD 66 0 15]),(Row.mk 20 (bA #[103,101]) [fD 68 0 15,fD 65 0 15,fD 66 0 15]),(Row.mk 21 (bA #[97,110,100]) [fD 68 0 15,fD 65 0 15,fD 66 0 15]),(Row.mk 22 (bA #[111,114]) [fD 68 0 15,fD 65 0 15,fD 66 0 15]),(Row.mk 23 (bA #[120,111,114]) [fD 68 0 15,fD 65 0 15,fD 66 0 15]),(Row.mk 24 (bA #[110,101,103]) [fD 68 0 15,fD 65 0 15]),(Row.mk 25 (bA #[97,98,115]) [fD 68 0 15,fD 65 0 15]),(Row.mk 26 (bA #[110,111,116]) [fD 68 0 15,fD 65 0 15]),(Row.mk 27 (bA #[99,104,107]) [fD 65 0 15,fD 78 (-9223372036854775808) 9223372036854775807,fD 77 (-9223372036854775808) 9223372036854775807]),(Row.mk 28 (bA #[99,104,107,122]) [fD 65 0 15]),(Row.mk 29 (bA #[106,109,112]) [fD 84 0 65535]),(Row.mk 30 (bA #[106,122]) [fD 65 0 15,fD 84 0 65535]),(Row.mk 31 (bA #[106,110,122]) [fD 65 0 15,fD 84 0 65535]),(Row.mk 32 (bA #[106,116]) [fD 65 0 15,fD 78 (-9223372036854775808) 9223372036854775807,fD 77 1 65536,fD 84 0 65535]),(Row.mk 33 (bA #[114,97,105,115,101]) [fD 78 1 64]),(Row.mk 34 (bA #[114,97,105,115,101,114]) [fD 65 0 15]),(Row.mk 35 (bA #[99,111,110,116]) [fD 65 0 15]),(Row.mk 36 (bA #[101,120,99]) [fD 68 0 15]),(Row.mk 37 (bA #[109,97,114,107]) [fD 78 6 7,fD 77 0 65535]),(Row.mk 38 (bA #[103,101,116]) [fD 68 0 15]),(Row.mk 39 (bA #[112,117,116]) [fD 65 0 15]),(Row.mk 40 (bA #[100,101,102,101,114]) []),(Row.mk 41 (bA #[97,108,108,111,119]) []),(Row.mk 42 (bA #[99,108,111,99,107]) [fD 68 0 15]),(Row.mk 43 (bA #[99,111,117,110,116]) [fD 68 0 15,fD 78 0 7,fD 77 (-1) 31]),(Row.mk 44 (bA #[115,116,97,114,116]) [fD 78 0 65535]),(Row.mk 45 (bA #[110,101,118,101,114]) [fD 78 0 65535]),(Row.mk 46 (bA #[97,119,97,105,116]) [fD 65 0 15,fD 78 0 65535]),(Row.mk 47 (bA #[100,101,108,97,121]) [fD 65 0 15]),(Row.mk 48 (bA #[117,110,116,105,108]) [fD 65 0 15]),(Row.mk 49 (bA #[99,97,108,108]) [fD 68 0 15,fD 65 0 31,fD 66 0 7,fD 78 0 4095,fD 77 0 3]),(Row.mk 50 (bA #[115,101,108]) [fD 78 0 1023]),(Row.mk 51 (bA #[100,111,110,101]) [fD 78 0 1]),(Row.mk 52 (bA #[114,101,113]) [fD 65 0 31,fD 66 0 7,fD 78 0 1,fD 84 0 65535]),(Row.mk 53 (bA #[108,111,99,107]) [fD 78 0 31]),(Row.mk 54 (bA #[112,101,110,116]) [fD 68 0 15,fD 65 0 15,fD 66 0 3,fD 78 0 31,fD 77 0 7]),(Row.mk 55 (bA #[117,110,108,111,99,107]) [fD 78 0 31]),(Row.mk 56 (bA #[97,98,111,114,116]) [fD 78 0 65535]),(Row.mk 57 (bA #[101,110,100]) [])]) ⟨q,q,Zt⟩ Zt ?_
 exact FB h

theorem f160_c{o0:Int}{r:Row×Bool}(h:f160 o0=some r):Pu prog 160 [.i .u8 o0] (.tu [.ag (u4 r.1), .b r.2]):=by
 unfold f160 at h
 refine fI func160 λ_ _=>?_
 refine Rcl 2 q (Al bV q (Rll 5 q (WL.fn q q q q (f201_c) Zt (Zw q) q q (Rlc 3 q (Jn0 [(2, .pt 0 0)] [.row 241 [.d (D.i .u8 0), .d (D.s ByteArray.empty),sN]] h (λc h=>?_) λh=>?_)))))
 refine Rcc 6 q (Ln1 (λa=> [(0, .d (D.i .u8 o0)),(2, .pt 0 0),(4, .l u6 f201),(5, .n a)]) (λ_=> [.row 241 [.d (D.i .u8 0), .d (D.s ByteArray.empty),sN]]) (f160_l1 o0 c) h (λ_ h=>by rw[f160_l1] at h;cases h) λn a h=>?_)
 rw[f160_l1] at h
 refine Rcl 5 q (Zq (ac u6 f201 wB q q Zl) q (Rlc 3 q (Ci h q (λh=>?_) λh=>?_)))
 refine Rcl 8 q (Ix h wB oq q Zl q q λe _ h=>(Rlc 6 q (Ci h q (λh=>?_) λh=>?_)))
 refine Rcl 4 q (Ix h wB oq q Zl q q λf _ h=>(Rl 1 q (sS Z6 sW Z2 (Rlx 9 q ?_))))
 obtain rfl:=Oi h
 exact am (rs2 q (aO q q a241 sW q) (ap q)) (aK ⟨(ah (Zs _)),Zl,Zt⟩)
 exact Rcx 8 q (Fn1 h)
 exact Rcx 4 q (En0 h)
 refine Rcl 2 q (Zq (aa cg bV q q) q (sS Z6 sW Z2 (Rlx 4 q ?_)))
 obtain rfl:=Oi h
 exact am (rs2 q (aO q q a241 sW q) (ap q)) (aK ⟨(ah ⟨Zl,Zl,Le.nil,Zt⟩),Zl,Zt⟩)

theorem f161_c{x0:aB}{f1:Int}:Pu prog 161 [.ag (R45 x0), .i .u8 f1] (.i .i64 (f161 x0 f1)):=by
 generalize h:f161 x0 f1=r
 unfold f161 at h
 refine fI func161 λ_ _=>?_
 refine Rcl 2 q (Bd q q (Zs _) q (Rlc 16 q (Ci h q (λh=>?_) λh=>?_)))
 exact Rcx 10 q (FB h)
 refine Rcc 6 q (Ci h q (λh=>Rcx 10 q (FB h)) λh=>?_)
 refine Rcc 6 q (Ci h q (λh=>Rcx 10 q (FB h)) λh=>?_)
 refine Rcc 6 q (Ci h q (λh=>Rcx 10 q (FB h)) λh=>?_)
 exact Rcc 6 q (Ci h q (λh=>Rcx 10 q (FB h)) λh=>Rcx 11 q (FB h))

theorem f162_c(x0:aB)(f1:Int)(v2:Int):Pu prog 162 [.ag (R45 x0), .i .u8 f1, .i .i64 v2] (.ag (R45 (f162 x0 f1 v2))):=by
 generalize h:f162 x0 f1 v2=r
 unfold f162 at h
 refine fI func162 λ_ _=>?_
 refine Rcl 2 q (Bx q q q (Al z45 q (Rlc 2 q (Jn6 (λ_ _ _ _ _ _=> [(3, .pt 0 0),(6, .pt 1 0)]) (λa c e f g j=> [.row 45 [.d (D.i .u8 x0.op), .n a, .n c, .n e, .n f, .n g, .n j], .row 45 [.d (D.i .u8 0), .n 0, .n 0, .n 0, .n 0, .n 0, .n 0]]) h (λ_ h=>?_) λa c e f g j h=>?_))))
 refine Rcc 12 q (Ci h q (λh=>Rcl 3 q (sS Z6 s3 Z2 (Rlx 2 q (En6 h)))) λh=>?_)
 refine Rcc 6 q (Ci h q (λh=>Rcl 3 q (sS Z6 s3 Z2 (Rlx 2 q (En6 h)))) λh=>?_)
 refine Rcc 6 q (Ci h q (λh=>Rcl 3 q (sS Z6 s3 Z2 (Rlx 2 q (En6 h)))) λh=>?_)
 refine Rcc 6 q (Ci h q (λh=>Rcl 3 q (sS Z6 s2 Z2 (Rlx 2 q (En6 h)))) λh=>?_)
 exact Rcc 6 q (Ci h q (λh=>Rcl 3 q (sS Z6 s2 Z2 (Rlx 2 q (En6 h)))) λh=>Rcl 3 q (sS Z6 s3 Z2 (Rlx 2 q (En6 h))))
 refine Rcl 3 q (sS Z6 s45 Z2 (Rlx 3 q ?_))
 subst h
 exact am (rs1 q (aO q q a45 s45 q)) (ah (Zs _))

theorem f139_c{x0:aB}{r:Bool}(h:f139 x0=some r):Pu prog 139 [.ag (R45 x0)] (.b r):=by
 unfold f139 at h
 refine fI func139 λ_ _=>?_
 refine Rcl 2 q (Bd q q (Zs _) q (Rll 7 q ?_))
 obtain⟨a,F,h⟩:=ab h
 refine wF Z4 (f160_c F) Lw Z3 (Rl 3 q (Al bV q (sS Z6 sW Z2 (Rlc 10 q (Ci h q (λh=>?_) λh=>?_)))))
 exact Rcx 7 q (FA h)
 refine Rcl 5 q (Al z45 q (sS Z6 s45 Z2 (Rll 5 q (sS Z6 s43 Z2 (Rlc 2 q (Jn7 (λ_ _ _ _ _ _ _=> [(1, .d (.pc (R45 x0))),(5, .pt 1 0)]) (λc e f g j k m=> [.row 241 [.d (D.i .u8 a.1.op), .d (D.s a.1.name), .l t7 a.1.fields], .row 45 [.d (D.i .u8 c), .n e, .n f, .n g, .n j, .n k, .n m]]) h (λG h=>?_) λc e f g j k m h=>?_))))))
 refine Rcc 6 q (Ln8 (λp _ _ _ _ _ _ _=> [(1, .d (.pc (R45 x0))),(3, .pt 0 0),(5, .pt 1 0),(6, .n p)]) (λ_ w x y A B C E=> [.row 241 [.d (D.i .u8 a.1.op), .d (D.s a.1.name), .l t7 a.1.fields], .row 45 [.d (D.i .u8 w), .n x, .n y, .n A, .n B, .n C, .n E]]) (f139_l1 x0 a G) h (λ_ _ _ _ _ _ _ _ h=>by rw[f139_l1] at h;cases h) λn p w x y A B C E h=>?_)
 rw[f139_l1] at h
 refine Rcl 6 q (Zq (ac t7 a.1.fields e239 q q Zl) q (Rlc 3 q (Ci h q (λh=>?_) λh=>?_)))
 refine Rcl 9 q (Ix h e239 aL q Zl q q λH _ h=>(Rl 1 q (Al aw q (sS Z6 s245 Z2 (Rll 7 q (wF Z4 (f161_c) Lw Z3 (Rll 11 q ?_)))))))
 refine OG 5 39 44 5 5 ?_
 refine Rlc 2 q (Ci h q (λh=>Rcx 12 q (FA h)) λh=>?_)
 exact Rcl 6 q (wF Z4 (f162_c (aB.mk w x y A B C E) _ _) ⟨(ah (Zs _)),Zl,Zl,Zt⟩ Z3 (sS Z6 s45 Z2 (Rlx 8 q (WE.drop 2 (env':=[(1, .d (.pc (R45 x0))),(3, .pt 0 0),(5, .pt 1 0),(6, .n (IntKind.i64.wrap (p+1)))]) Sb q q (Nat.zero_le _) (cG ⟨_,⟨_,_,_,_,_,_,_,_,h,Sb,Tv⟩,Nat.lt_succ_self _⟩)))))
 exact Rcx 4 q (cG ⟨_,_,_,_,_,_,_,h,Sb,Tv⟩)
 refine Rcl 3 q (Zq (aa p45 z45 q q) q (Zq (lq (xs:=[.int .u8 c, .int .i64 e, .int .i64 f, .int .i64 g, .int .i64 j, .int .i64 k, .int .i64 m]) (ys:=[.int .u8 0, .int .i64 0, .int .i64 0, .int .i64 0, .int .i64 0, .int .i64 0, .int .i64 0]) q45 q (ah (Zs _)) q (ah (Zs _)) q q q) q (Rl 1 q ?_)))
 apply WL.and 11 (t:=52) (d:=63)
 exact q
 intro I
 refine Rl 4 q ?_
 refine OG 6 56 62 6 6 ?_
 exact Rn 1 6
 exact Rn 11 11
 refine Rl 1 q ?_
 apply WL.and 14 (t:=64) (d:=78)
 exact q
 intro J
 refine Rl 4 q ?_
 refine OG 4 68 72 4 4 ?_
 refine Rl 1 q ?_
 refine OG 4 73 77 4 4 ?_
 exact Rn 1 8
 exact Rn 14 14
 exact Rlx 4 q (FA h)

theorem f140_c{t0:aj}{a:Int}{c:Int}{r:Bool}(h:f140 t0 a c=some r):Pu prog 140 [.ag (R38 t0), .i .i64 a, .i .i64 c] (.b r):=by
 unfold f140 at h
 refine fI func140 λ_ _=>?_
 refine Rcl 2 q (Bd q q (Zs _) q (Rll 11 q (Zq (ac E45 t0.insns e23 q q Zl) q (Rlc 3 q (Ci h q (λh=>?_) λh=>?_)))))
 exact Rcx 7 q (FA h)
 refine Rcc 2 q (Jn0 [] [] h (λf h=>?_) λh=>?_)
 refine Rcc 7 q (Ln1 (λe=> [(1, .n a),(2, .n c),(3, .d (.pc (R38 t0))),(7, .n e)]) (λ_=> []) (f140_l1 t0 a c f) h (λ_ h=>by rw[f140_l1] at h;cases h) λn e h=>?_)
 rw[f140_l1] at h
 refine Rcc 10 q (Ci h q (λh=>?_) λh=>?_)
 refine Rcl 9 q (Ix h e23 dr q Zl q q λg _ h=>(Rlc 5 q (Ci h q (λh=>?_) λh=>?_)))
 exact Rcx 11 q (FA h)
 exact Rcx 8 q (Fn1 h)
 exact Rcx 4 q (En0 h)
 exact Rcx 6 q (FA h)

theorem f141_c{t0:aj}{a:Int}{n2:Int}{r:cr×Bool}(h:f141 t0 a n2=some r):Pu prog 141 [.ag (R38 t0), .i .i64 a, .i .i64 n2] (.tu [.ag (se r.1), .b r.2]):=by
 unfold f141 at h
 refine fI func141 λ_ _=>?_
 refine Rcl 2 q (Bd q q (Zs _) q (Al sj q (Rll 9 q ?_)))
 apply WL.or 6 (t:=10) (d:=16)
 exact q
 intro j
 exact Rl 3 q (Zy (ac E27 t0.tasks e28 q q Zl) q q q (Rl 2 q (WL.nil ⟨q,[_,_,_,_,_,_],q,q,q⟩)))
 exact Rn 6 6
 refine Rl 1 q ?_
 refine OG 3 17 20 3 3 ?_
 refine Rl 1 q ?_
 obtain⟨e,f,h⟩:=ab h
 refine Gg 10 21 31 e f (λh=>?_) (λh=>?_) ?_
 exact On 10 10 h
 refine Rl 4 q ?_
 obtain⟨g,c,h⟩:=ab h
 exact Zy (ai e28 q Zl q (ae c) (az jv c) q) q q q (Rl 2 q (Zy (ac jw g.entries e25 q q Zl) q q q (On 2 10 h)))
 refine Rlc 2 q (Ci h q (λh=>?_) λh=>?_)
 refine Rcl 2 q (Zq (aa p173 sj q q) q (sS Z6 qa Z2 (Rlx 5 q ?_)))
 obtain rfl:=Oi h
 exact am (rs2 q (aO q q a173 qa q) (ap q)) (aK ⟨(ah ⟨Le.nil,Le.nil,Zt⟩),Zl,Zt⟩)
 refine Rcl 7 q (Ix h e28 jv q Zl q q λk _ h=>(Rl 3 q (Ix h e25 jZ q Zl q q λm _ h=>(Rl 1 q (sS Z6 qa Z2 (Rlx 4 q ?_))))))
 obtain rfl:=Oi h
 exact am (rs2 q (aO q q a173 qa q) (ap q)) (aK ⟨(ah (Zs _)),Zl,Zt⟩)

theorem f142_c{t0:aj}{p1:Int}{n2:Int}{r:Bool}(h:f142 t0 p1 n2=some r):Pu prog 142 [.ag (R38 t0), .i .i64 p1, .i .i64 n2] (.b r):=by
 unfold f142 at h
 refine fI func142 λ_ _=>?_
 refine Rcl 2 q (Bd q q (Zs _) q (Rll 8 q ?_))
 apply WL.and 6 (t:=9) (d:=15)
 exact q
 intro g
 exact Rl 3 q (Zy (ac bI t0.prots e35 q q Zl) q q q (Rl 2 q (WL.nil ⟨q,[_,_,_,_,_,_],q,q,q⟩)))
 exact Rn 6 6
 refine Rl 1 q ?_
 refine AG 3 16 19 3 3 ?_
 refine Rl 1 q ?_
 obtain⟨c,e,h⟩:=ab h
 refine Gg 10 20 30 c e (λh=>?_) (λh=>?_) ?_
 refine Rl 4 q ?_
 obtain⟨f,a,h⟩:=ab h
 exact Zy (ai e35 q Zl q (ae a) (az j6 a) q) q q q (Rl 2 q (Zy (ac dU f.barriers iI q q Zl) q q q (On 2 10 h)))
 exact On 10 10 h
 exact Rlx 4 q (FA h)

theorem f95_c{t0:aj}{x1:aB}{r:Bool}(h:f95 t0 x1=some r):Pu prog 95 [.ag (R38 t0), .ag (R45 x1)] (.b r):=by
 unfold f95 at h
 refine fI func95 λ_ _=>?_
 refine Rcl 2 q (Bd q q (Zs _) q (Bd q q (Zs _) q (Rll 7 q ?_)))
 obtain⟨I,k,h⟩:=ab h
 refine wF Z4 (f139_c k) Lw Z3 (Rlc 3 q (Ci h q (λh=>?_) λh=>?_))
 exact Rcx 7 q (FA h)
 refine Rcc 10 q (Jn1 (λa=> [(2, .d (.pc (R38 t0))),(3, .d (.pc (R45 x1))),(13, .d (D.i .u8 x1.op)),(14, .d (D.b a))]) (λ_=> []) h (λ_ h=>?_) λa h=>?_)
 exact Rcc 6 q (Ci h q (λh=>Rcx 1 q (En1 h)) λh=>Rcx 4 q (En1 h))
 refine Ci h q (λh=>?_) (λh=>?_)
 refine Rcl 7 q ?_
 obtain⟨J,m,h⟩:=ab h
 exact wF Z4 (f134_c m) Lw Z3 (Rlx 6 q (FA h))
 refine Jn1 (λc=> [(2, .d (.pc (R38 t0))),(3, .d (.pc (R45 x1))),(13, .d (D.i .u8 x1.op)),(23, .d (D.b c))]) (λ_=> []) h (λ_ h=>?_) (λc h=>?_)
 exact Rcc 6 q (Ci h q (λh=>Rcx 1 q (En1 h)) λh=>Rcx 4 q (En1 h))
 refine Ci h q (λh=>?_) (λh=>?_)
 refine Rcl 9 q ?_
 obtain⟨K,p,h⟩:=ab h
 exact wF Z4 (f134_c p) Lw Z3 (Rlx 6 q (FA h))
 refine Jn1 (λe=> [(2, .d (.pc (R38 t0))),(3, .d (.pc (R45 x1))),(13, .d (D.i .u8 x1.op)),(34, .d (D.b e))]) (λ_=> []) h (λ_ h=>?_) (λe h=>?_)
 refine Rcc 6 q (Ci h q (λh=>Rcx 1 q (En1 h)) λh=>?_)
 exact Rcc 6 q (Ci h q (λh=>Rcx 1 q (En1 h)) λh=>Rcx 4 q (En1 h))
 refine Ci h q (λh=>?_) (λh=>?_)
 exact Rcl 5 q (wF Z4 (f30_c) Lw Z3 (Rlx 6 q (FA h)))
 refine Rcc 6 q (Ci h q (λh=>?_) λh=>?_)
 refine Rcl 7 q ?_
 obtain⟨L,w,h⟩:=ab h
 exact wF Z4 (f140_c w) Lw Z3 (Rlx 6 q (FA h))
 refine Rcc 6 q (Ci h q (λh=>Rcx 13 q (FA h)) λh=>?_)
 refine Jn1 (λf=> [(2, .d (.pc (R38 t0))),(3, .d (.pc (R45 x1))),(13, .d (D.i .u8 x1.op)),(57, .d (D.b f))]) (λ_=> []) h (λ_ h=>?_) (λf h=>?_)
 refine Rcc 6 q (Ci h q (λh=>Rcx 1 q (En1 h)) λh=>?_)
 refine Rcc 6 q (Ci h q (λh=>Rcx 1 q (En1 h)) λh=>?_)
 exact Rcc 6 q (Ci h q (λh=>Rcx 1 q (En1 h)) λh=>Rcx 4 q (En1 h))
 refine Ci h q (λh=>?_) (λh=>?_)
 exact Rcl 6 q (Zq (ac E96 t0.lists e32 q q Zl) q (Rlx 7 q (FA h)))
 refine Rcc 6 q (Ci h q (λh=>Rcl 6 q (Zq (ac bS t0.selects e31 q q Zl) q (Rlx 7 q (FA h)))) λh=>?_)
 refine Rcc 6 q (Ci h q (λh=>?_) λh=>?_)
 refine Rcl 7 q ?_
 obtain⟨g,x,h⟩:=ab h
 refine wF Z4 (f141_c x) Lw Z3 (Rl 3 q (Al sj q (sS Z6 qa Z2 (Rll 7 q ?_))))
 obtain⟨y,A,h⟩:=ab h
 refine Gg 13 88 101 y A (λh=>?_) (λh=>?_) ?_
 refine Rl 5 q (Zy (ac E3 g.1.ins e96 q q Zl) q q q (Rl 2 q (Zy (ac E3 g.1.outs e96 q q Zl) q q q (Rl 2 q ?_))))
 obtain⟨M,B,h⟩:=ab h
 exact WL.fn q q q q (f134_c B) Lw (aU q q q) q q (On 1 13 h)
 exact On 13 13 h
 exact Rlx 6 q (FA h)
 refine Rcc 6 q (Ci h q (λh=>?_) λh=>?_)
 refine Rcl 7 q ?_
 obtain⟨N,C,h⟩:=ab h
 refine wF Z4 (f141_c C) Lw Z3 (Rl 3 q (Al sj q (sS Z6 qa Z2 (Rll 7 q ?_))))
 apply WL.and 5 (t:=114) (d:=119)
 exact q
 intro O
 exact Rl 3 q (WL.fn q q q q (f30_c) Lw (aU q q q) q q (Rl 1 q (WL.nil ⟨q,[_,_,_,_,_],q,q,q⟩)))
 exact Rn 5 5
 exact Rlx 6 q (FA h)
 refine Jn1 (λj=> [(2, .d (.pc (R38 t0))),(3, .d (.pc (R45 x1))),(13, .d (D.i .u8 x1.op)),(120, .d (D.b j))]) (λ_=> []) h (λ_ h=>?_) (λj h=>?_)
 exact Rcc 6 q (Ci h q (λh=>Rcx 1 q (En1 h)) λh=>Rcx 4 q (En1 h))
 refine Ci h q (λh=>?_) (λh=>?_)
 exact Rcl 6 q (Zq (ac bI t0.prots e35 q q Zl) q (Rlx 7 q (FA h)))
 refine Rcc 6 q (Ci h q (λh=>?_) λh=>?_)
 refine Rcl 7 q ?_
 obtain⟨P,E,h⟩:=ab h
 exact wF Z4 (f142_c E) Lw Z3 (Rlx 6 q (FA h))
 refine Rcc 6 q (Ci h q (λh=>?_) λh=>?_)
 refine Rcl 6 q ?_
 obtain⟨F,G,h⟩:=ab h
 refine Gg 7 142 149 F G (λh=>?_) (λh=>?_) ?_
 exact On 7 7 h
 refine Rl 5 q ?_
 obtain⟨Q,H,h⟩:=ab h
 exact WL.fn q q q q (f142_c H) Lw (aU q q q) q q (On 1 7 h)
 exact Rlx 6 q (FA h)
 exact Rcx 9 q (FA h)

theorem f48_c{t0:aj}{r:Bool}(h:f48 t0=some r):Pu prog 48 [.ag (R38 t0)] (.b r):=by
 unfold f48 at h
 refine fI func48 λ_ _=>?_
 refine Rcl 2 q (Bd q q (Zs _) q (Rll 7 q (Zq (ac E45 t0.insns e23 q q Zl) q (Rll 9 q ?_))))
 refine OG 3 11 14 3 3 ?_
 refine Rl 1 q ?_
 obtain⟨e,f,h⟩:=ab h
 refine Gg 4 15 19 e f (λh=>?_) (λh=>?_) ?_
 exact On 4 4 h
 refine Rl 1 q ?_
 obtain⟨K,g,h⟩:=ab h
 exact WL.fn q q q q (f89_c g) Lw (aU q q q) q q (On 2 4 h)
 refine Rl 1 q ?_
 obtain⟨j,k,h⟩:=ab h
 refine Gg 4 20 24 j k (λh=>?_) (λh=>?_) ?_
 exact On 4 4 h
 refine Rl 1 q ?_
 obtain⟨L,m,h⟩:=ab h
 exact WL.fn q q q q (f90_c m) Lw (aU q q q) q q (On 2 4 h)
 refine Rl 1 q ?_
 obtain⟨p,t,h⟩:=ab h
 refine Gg 4 25 29 p t (λh=>?_) (λh=>?_) ?_
 exact On 4 4 h
 refine Rl 1 q ?_
 obtain⟨M,w,h⟩:=ab h
 exact WL.fn q q q q (f91_c w) Lw (aU q q q) q q (On 2 4 h)
 refine Rl 1 q ?_
 obtain⟨x,y,h⟩:=ab h
 refine Gg 4 30 34 x y (λh=>?_) (λh=>?_) ?_
 exact On 4 4 h
 refine Rl 1 q ?_
 obtain⟨N,A,h⟩:=ab h
 exact WL.fn q q q q (f92_c A) Lw (aU q q q) q q (On 2 4 h)
 refine Rl 1 q ?_
 obtain⟨B,C,h⟩:=ab h
 refine Gg 4 35 39 B C (λh=>?_) (λh=>?_) ?_
 exact On 4 4 h
 refine Rl 1 q ?_
 obtain⟨O,E,h⟩:=ab h
 exact WL.fn q q q q (f93_c E) Lw (aU q q q) q q (On 2 4 h)
 refine Rl 1 q ?_
 obtain⟨F,G,h⟩:=ab h
 refine Gg 4 40 44 F G (λh=>?_) (λh=>?_) ?_
 exact On 4 4 h
 refine Rl 1 q ?_
 obtain⟨P,H,h⟩:=ab h
 exact WL.fn q q q q (f94_c H) Lw (aU q q q) q q (On 2 4 h)
 refine Rlc 2 q (Ci h q (λh=>Rcx 7 q (FA h)) λh=>?_)
 refine Rcc 2 q (Jn0 [(1, .d (.pc (R38 t0))),(3, .n (List.length t0.insns:Int))] [] h (λI h=>?_) λh=>?_)
 refine Rcc 6 q (Ln1 (λa=> [(1, .d (.pc (R38 t0))),(3, .n (List.length t0.insns:Int)),(4, .n a)]) (λ_=> []) (f48_l1 t0 I) h (λ_ h=>by rw[f48_l1] at h;cases h) λn a h=>?_)
 rw[f48_l1] at h
 refine Rcc 8 q (Ci h q (λh=>?_) λh=>?_)
 refine Rcc 5 q (ao kR kR (Rq 4 q ?_))
 obtain⟨Q,c,h⟩:=ab h
 refine WQ.qn (ai e23 q Zl q (ae c) (az dr c) q) q (Rq 1 q ?_)
 obtain⟨R,J,h⟩:=ab h
 refine WQ.q (YieldsQ.fn q q q q q (f95_c J) Lw) (Zw q) q q (Rq 1 q (WQ.nil (Rxc 1 q (Ci h q (λh=>?_) λh=>?_))))
 exact Rcx 11 q (FA h)
 exact Rcx 8 q (Fn1 h)
 exact Rcx 4 q (En0 h)
 refine Rcl 6 q (Ix h e23 dr q Zl q q λS _ h=>(Rll 10 q ?_))
 refine OG 3 67 70 3 3 ?_
 refine Rl 1 q ?_
 refine OG 3 71 74 3 3 ?_
 refine Rl 1 q ?_
 refine OG 3 75 78 3 3 ?_
 exact Rlx 4 q (FA h)

end Go.Proofs.YtkbahggepncliaaGreatDoor
