/- The walks of functions. -/
import Derived.Test.YtkbahggepncliaaGreatDoorX
import Derived.Test.YtkbahggepncliaaGreatDoorWa
set_option linter.unusedVariables false
set_option linter.unusedSimpArgs false
set_option linter.unusedSectionVars false
set_option linter.unnecessarySimpa false
set_option maxHeartbeats 4000000
set_option maxRecDepth 100000
namespace Go.Proofs.YtkbahggepncliaaGreatDoor
open Tryz
open Go Go.Sk

theorem f132_c{a:Int}{a1:Int}{b2:Int}{r:Int×Bool}(h:f132 a a1 b2=some r):Pu prog 132 [.i .u8 a, .i .i64 a1, .i .i64 b2] (.tu [.i .i64 r.1, .b r.2]):=by
 unfold f132 at h
 refine fI func132 λ_ _=>?_
 refine Rcc 19 q (Ci h q (λh=>Rcx 12 q (FA h)) λh=>?_)
 refine Rcc 6 q (Ci h q (λh=>Rcx 12 q (FA h)) λh=>?_)
 refine Rcl 5 q ?_
 obtain⟨a',bb,h⟩:=ah h
 refine WL.inl (us:=[]) (λrv st'=>(a' ()=some r∧Le rv (.mp 0)∧SLe st' (tW 18))) q q q q q ?_ (Zw q) q q ?_
 refine cI func159 λ_ _ _ _=>?_
 refine Rcl 7 q (WL.s ((gu (α:=AV) (λx:Int=>Value.int .u8 x) λx:AV=>x).does) (Zw q) q q ?_)
 obtain⟨bk,bo,h⟩:=ah h
 refine WL.inl (us:=[.fn (.func 181) [] []]) (λrv st'=>(bk ()=some r∧Le rv (.fn (.func 214) [] [.pt 1 0])∧SLe st' (tS 0 1))) q q q q q ?_ (Zw q) q q ?_
 refine cI func180 λ_ _ _ _=>?_
 exact Rcl 2 q (Bx q q q (Rlx 10 q (af (rs1 q (ap q)) ⟨h,Zl,⟨q,Zp,Zt⟩⟩)))
 rintro rv st1 ⟨h,hr,hst⟩
 subst bo
 dsimp only at h
 refine WL.cast 2 q hr (WL.weak hst (WL.s0 (aO (λx:Int=>Value.int .u8 x) (λx:AV=>x) _ (u:= .fn (.func 214) [] [.pt 1 0]) (.inl q) underlying237 underlying146 (KeyF.int .u8) q q q q) (Zw q) q ?_))
 obtain⟨bs,b0,h⟩:=ah h
 refine WL.inl (us:=[.fn (.func 182) [] []]) (λrv st'=>(bs ()=some r∧Le rv (.fn (.func 214) [] [.pt 2 0])∧SLe st' (tS 1 2))) q q q q q ?_ (Zw q) q q ?_
 refine cI func180 λ_ _ _ _=>?_
 exact Rcl 2 q (Bx q q q (Rlx 10 q (af (rs1 q (ap q)) ⟨h,Zl,⟨q,Zp,Zp,Zt⟩⟩)))
 rintro rv st1 ⟨h,hr,hst⟩
 subst b0
 dsimp only at h
 refine WL.cast 3 q hr (WL.weak hst (WL.s0 (aO (λx:Int=>Value.int .u8 x) (λx:AV=>x) _ (u:= .fn (.func 214) [] [.pt 2 0]) (.inl q) underlying237 underlying146 (KeyF.int .u8) q q q q) (Zw q) q ?_))
 obtain⟨b1,b3,h⟩:=ah h
 refine WL.inl (us:=[.fn (.func 183) [] []]) (λrv st'=>(b1 ()=some r∧Le rv (.fn (.func 214) [] [.pt 3 0])∧SLe st' (tS 2 3))) q q q q q ?_ (Zw q) q q ?_
 refine cI func180 λ_ _ _ _=>?_
 exact Rcl 2 q (Bx q q q (Rlx 10 q (af (rs1 q (ap q)) ⟨h,Zl,⟨q,Zp,Zp,Zp,Zt⟩⟩)))
 rintro rv st1 ⟨h,hr,hst⟩
 subst b3
 dsimp only at h
 refine WL.cast 4 q hr (WL.weak hst (WL.s0 (aO (λx:Int=>Value.int .u8 x) (λx:AV=>x) _ (u:= .fn (.func 214) [] [.pt 3 0]) (.inl q) underlying237 underlying146 (KeyF.int .u8) q q q q) (Zw q) q ?_))
 obtain⟨b4,b5,h⟩:=ah h
 refine WL.inl (us:=[.fn (.func 185) [] []]) (λrv st'=>(b4 ()=some r∧Le rv (.fn (.func 215) [] [.pt 4 0])∧SLe st' (tS 3 4))) q q q q q ?_ (Zw q) q q ?_
 refine cI func184 λ_ _ _ _=>?_
 exact Rcl 2 q (Bx q q q (Rlx 10 q (af (rs1 q (ap q)) ⟨h,Zl,⟨q,Zp,Zp,Zp,Zp,Zt⟩⟩)))
 rintro rv st1 ⟨h,hr,hst⟩
 subst b5
 dsimp only at h
 refine WL.cast 5 q hr (WL.weak hst (WL.s0 (aO (λx:Int=>Value.int .u8 x) (λx:AV=>x) _ (u:= .fn (.func 215) [] [.pt 4 0]) (.inl q) underlying237 underlying146 (KeyF.int .u8) q q q q) (Zw q) q ?_))
 obtain⟨b6,b7,h⟩:=ah h
 refine WL.inl (us:=[.fn (.func 186) [] []]) (λrv st'=>(b6 ()=some r∧Le rv (.fn (.func 215) [] [.pt 5 0])∧SLe st' (tS 4 5))) q q q q q ?_ (Zw q) q q ?_
 refine cI func184 λ_ _ _ gl=>?_
 exact Rcl 2 q (Bx q q q (Rlx 10 q (af (rs1 q (ap q)) ⟨h,Zl,⟨q,Zp,Zp,Zp,Zp,Zp,Zt⟩⟩)))
 rintro rv st1 ⟨h,hr,hst⟩
 subst b7
 dsimp only at h
 refine WL.cast 6 q hr (WL.weak hst (WL.s0 (aO (λx:Int=>Value.int .u8 x) (λx:AV=>x) _ (u:= .fn (.func 215) [] [.pt 5 0]) (.inl q) underlying237 underlying146 (KeyF.int .u8) q q q q) (Zw q) q ?_))
 obtain⟨b8,b9,h⟩:=ah h
 refine WL.inl (us:=[.fn (.func 187) [] []]) (λrv st'=>(b8 ()=some r∧Le rv (.fn (.func 215) [] [.pt 6 0])∧SLe st' (tS 5 6))) q q q q q ?_ (Zw q) q q ?_
 refine cI func184 λ_ _ _ _=>?_
 exact Rcl 2 q (Bx q q q (Rlx 10 q (af (rs1 q (ap q)) ⟨h,Zl,⟨q,Zp,Zp,Zp,Zp,Zp,Zp,Zt⟩⟩)))
 rintro rv st1 ⟨h,hr,hst⟩
 subst b9
 dsimp only at h
 refine WL.cast 7 q hr (WL.weak hst (WL.s0 (aO (λx:Int=>Value.int .u8 x) (λx:AV=>x) _ (u:= .fn (.func 215) [] [.pt 6 0]) (.inl q) underlying237 underlying146 (KeyF.int .u8) q q q q) (Zw q) q ?_))
 obtain⟨b',ca,h⟩:=ah h
 refine WL.inl (us:=[.fn (.func 189) [] []]) (λrv st'=>(b' ()=some r∧Le rv (.fn (.func 216) [] [.pt 7 0])∧SLe st' (tS 6 7))) q q q q q ?_ (Zw q) q q ?_
 refine cI func188 λ_ _ _ _=>?_
 exact Rcl 2 q (Bx q q q (Rlx 10 q (af (rs1 q (ap q)) ⟨h,Zl,⟨q,Zp,Zp,Zp,Zp,Zp,Zp,Zp,Zt⟩⟩)))
 rintro rv st1 ⟨h,hr,hst⟩
 subst ca
 dsimp only at h
 refine WL.cast 8 q hr (WL.weak hst (WL.s0 (aO (λx:Int=>Value.int .u8 x) (λx:AV=>x) _ (u:= .fn (.func 216) [] [.pt 7 0]) (.inl q) underlying237 underlying146 (KeyF.int .u8) q q q q) (Zw q) q ?_))
 obtain⟨cb,cc,h⟩:=ah h
 refine WL.inl (us:=[.fn (.func 190) [] []]) (λrv st'=>(cb ()=some r∧Le rv (.fn (.func 216) [] [.pt 8 0])∧SLe st' (tS 7 8))) q q q q q ?_ (Zw q) q q ?_
 refine cI func188 λ_ _ _ _=>?_
 exact Rcl 2 q (Bx q q q (Rlx 10 q (af (rs1 q (ap q)) ⟨h,Zl,⟨q,Zp,Zp,Zp,Zp,Zp,Zp,Zp,Zp,Zt⟩⟩)))
 rintro rv st1 ⟨h,hr,hst⟩
 subst cc
 dsimp only at h
 refine WL.cast 9 q hr (WL.weak hst (WL.s0 (aO (λx:Int=>Value.int .u8 x) (λx:AV=>x) _ (u:= .fn (.func 216) [] [.pt 8 0]) (.inl q) underlying237 underlying146 (KeyF.int .u8) q q q q) (Zw q) q ?_))
 obtain⟨cd,ci,h⟩:=ah h
 refine WL.inl (us:=[.fn (.func 191) [] []]) (λrv st'=>(cd ()=some r∧Le rv (.fn (.func 216) [] [.pt 9 0])∧SLe st' (tS 8 9))) q q q q q ?_ (Zw q) q q ?_
 refine cI func188 λ_ _ _ _=>?_
 exact Rcl 2 q (Bx q q q (Rlx 10 q (af (rs1 q (ap q)) ⟨h,Zl,⟨q,Zp,Zp,Zp,Zp,Zp,Zp,Zp,Zp,Zp,Zt⟩⟩)))
 rintro rv st1 ⟨h,hr,hst⟩
 subst ci
 dsimp only at h
 refine WL.cast 10 q hr (WL.weak hst (WL.s0 (aO (λx:Int=>Value.int .u8 x) (λx:AV=>x) _ (u:= .fn (.func 216) [] [.pt 9 0]) (.inl q) underlying237 underlying146 (KeyF.int .u8) q q q q) (Zw q) q ?_))
 obtain⟨cj,cl,h⟩:=ah h
 refine WL.inl (us:=[.fn (.func 192) [] []]) (λrv st'=>(cj ()=some r∧Le rv (.fn (.func 216) [] [.pt 10 0])∧SLe st' (tS 9 10))) q q q q q ?_ (Zw q) q q ?_
 refine cI func188 λ_ _ _ _=>?_
 exact Rcl 2 q (Bx q q q (Rlx 10 q (af (rs1 q (ap q)) ⟨h,Zl,⟨q,Zp,Zp,Zp,Zp,Zp,Zp,Zp,Zp,Zp,Zp,Zt⟩⟩)))
 rintro rv st1 ⟨h,hr,hst⟩
 subst cl
 dsimp only at h
 refine WL.cast 11 q hr (WL.weak hst (WL.s0 (aO (λx:Int=>Value.int .u8 x) (λx:AV=>x) _ (u:= .fn (.func 216) [] [.pt 10 0]) (.inl q) underlying237 underlying146 (KeyF.int .u8) q q q q) (Zw q) q ?_))
 obtain⟨cn,cp,h⟩:=ah h
 refine WL.inl (us:=[.fn (.func 193) [] []]) (λrv st'=>(cn ()=some r∧Le rv (.fn (.func 216) [] [.pt 11 0])∧SLe st' (tS 10 11))) q q q q q ?_ (Zw q) q q ?_
 refine cI func188 λ_ _ _ gm=>?_
 exact Rcl 2 q (Bx q q q (Rlx 10 q (af (rs1 q (ap q)) ⟨h,Zl,⟨q,Zp,Zp,Zp,Zp,Zp,Zp,Zp,Zp,Zp,Zp,Zp,Zt⟩⟩)))
 rintro rv st1 ⟨h,hr,hst⟩
 subst cp
 dsimp only at h
 refine WL.cast 12 q hr (WL.weak hst (WL.s0 (aO (λx:Int=>Value.int .u8 x) (λx:AV=>x) _ (u:= .fn (.func 216) [] [.pt 11 0]) (.inl q) underlying237 underlying146 (KeyF.int .u8) q q q q) (Zw q) q ?_))
 obtain⟨cx,c0,h⟩:=ah h
 refine WL.inl (us:=[.fn (.func 194) [] []]) (λrv st'=>(cx ()=some r∧Le rv (.fn (.func 216) [] [.pt 12 0])∧SLe st' (tS 11 12))) q q q q q ?_ (Zw q) q q ?_
 refine cI func188 λ_ _ _ _=>?_
 exact Rcl 2 q (Bx q q q (Rlx 10 q (af (rs1 q (ap q)) ⟨h,Zl,⟨q,Zp,Zp,Zp,Zp,Zp,Zp,Zp,Zp,Zp,Zp,Zp,Zp,Zt⟩⟩)))
 rintro rv st1 ⟨h,hr,hst⟩
 subst c0
 dsimp only at h
 refine WL.cast 13 q hr (WL.weak hst (WL.s0 (aO (λx:Int=>Value.int .u8 x) (λx:AV=>x) _ (u:= .fn (.func 216) [] [.pt 12 0]) (.inl q) underlying237 underlying146 (KeyF.int .u8) q q q q) (Zw q) q ?_))
 obtain⟨c1,c2,h⟩:=ah h
 refine WL.inl (us:=[.fn (.func 195) [] []]) (λrv st'=>(c1 ()=some r∧Le rv (.fn (.func 214) [] [.pt 13 0])∧SLe st' (tS 12 13))) q q q q q ?_ (Zw q) q q ?_
 refine cI func180 λ_ _ _ _=>?_
 exact Rcl 2 q (Bx q q q (Rlx 10 q (af (rs1 q (ap q)) ⟨h,Zl,⟨q,Zp,Zp,Zp,Zp,Zp,Zp,Zp,Zp,Zp,Zp,Zp,Zp,Zp,Zt⟩⟩)))
 rintro rv st1 ⟨h,hr,hst⟩
 subst c2
 dsimp only at h
 refine WL.cast 14 q hr (WL.weak hst (WL.s0 (aO (λx:Int=>Value.int .u8 x) (λx:AV=>x) _ (u:= .fn (.func 214) [] [.pt 13 0]) (.inl q) underlying237 underlying146 (KeyF.int .u8) q q q q) (Zw q) q ?_))
 obtain⟨c3,c4,h⟩:=ah h
 refine WL.inl (us:=[.fn (.func 196) [] []]) (λrv st'=>(c3 ()=some r∧Le rv (.fn (.func 214) [] [.pt 14 0])∧SLe st' (tS 13 14))) q q q q q ?_ (Zw q) q q ?_
 refine cI func180 λ_ _ _ _=>?_
 exact Rcl 2 q (Bx q q q (Rlx 10 q (af (rs1 q (ap q)) ⟨h,Zl,⟨q,Zp,Zp,Zp,Zp,Zp,Zp,Zp,Zp,Zp,Zp,Zp,Zp,Zp,Zp,Zt⟩⟩)))
 rintro rv st1 ⟨h,hr,hst⟩
 subst c4
 dsimp only at h
 refine WL.cast 15 q hr (WL.weak hst (WL.s0 (aO (λx:Int=>Value.int .u8 x) (λx:AV=>x) _ (u:= .fn (.func 214) [] [.pt 14 0]) (.inl q) underlying237 underlying146 (KeyF.int .u8) q q q q) (Zw q) q ?_))
 obtain⟨c5,c6,h⟩:=ah h
 refine WL.inl (us:=[.fn (.func 197) [] []]) (λrv st'=>(c5 ()=some r∧Le rv (.fn (.func 214) [] [.pt 15 0])∧SLe st' (tS 14 15))) q q q q q ?_ (Zw q) q q ?_
 refine cI func180 λ_ _ _ gs=>?_
 exact Rcl 2 q (Bx q q q (Rlx 10 q (af (rs1 q (ap q)) ⟨h,Zl,⟨q,Zp,Zp,Zp,Zp,Zp,Zp,Zp,Zp,Zp,Zp,Zp,Zp,Zp,Zp,Zp,Zt⟩⟩)))
 rintro rv st1 ⟨h,hr,hst⟩
 subst c6
 dsimp only at h
 refine WL.cast 16 q hr (WL.weak hst (WL.s0 (aO (λx:Int=>Value.int .u8 x) (λx:AV=>x) _ (u:= .fn (.func 214) [] [.pt 15 0]) (.inl q) underlying237 underlying146 (KeyF.int .u8) q q q q) (Zw q) q ?_))
 obtain⟨c7,c',h⟩:=ah h
 refine WL.inl (us:=[.fn (.func 198) [] []]) (λrv st'=>(c7 ()=some r∧Le rv (.fn (.func 214) [] [.pt 16 0])∧SLe st' (tS 15 16))) q q q q q ?_ (Zw q) q q ?_
 refine cI func180 λ_ _ _ _=>?_
 exact Rcl 2 q (Bx q q q (Rlx 10 q (af (rs1 q (ap q)) ⟨h,Zl,⟨q,Zp,Zp,Zp,Zp,Zp,Zp,Zp,Zp,Zp,Zp,Zp,Zp,Zp,Zp,Zp,Zp,Zt⟩⟩)))
 rintro rv st1 ⟨h,hr,hst⟩
 subst c'
 dsimp only at h
 refine WL.cast 17 q hr (WL.weak hst (WL.s0 (aO (λx:Int=>Value.int .u8 x) (λx:AV=>x) _ (u:= .fn (.func 214) [] [.pt 16 0]) (.inl q) underlying237 underlying146 (KeyF.int .u8) q q q q) (Zw q) q ?_))
 obtain⟨dd,df,h⟩:=ah h
 refine WL.inl (us:=[.fn (.func 199) [] []]) (λrv st'=>(dd ()=some r∧Le rv (.fn (.func 214) [] [.pt 17 0])∧SLe st' (tS 16 17))) q q q q q ?_ (Zw q) q q ?_
 refine cI func180 λ_ _ _ _=>?_
 exact Rcl 2 q (Bx q q q (Rlx 10 q (af (rs1 q (ap q)) ⟨h,Zl,⟨q,Zp,Zp,Zp,Zp,Zp,Zp,Zp,Zp,Zp,Zp,Zp,Zp,Zp,Zp,Zp,Zp,Zp,Zt⟩⟩)))
 rintro rv st1 ⟨h,hr,hst⟩
 subst df
 dsimp only at h
 refine WL.cast 18 q hr (WL.weak hst (WL.s0 (aO (λx:Int=>Value.int .u8 x) (λx:AV=>x) _ (u:= .fn (.func 214) [] [.pt 17 0]) (.inl q) underlying237 underlying146 (KeyF.int .u8) q q q q) (Zw q) q ?_))
 obtain⟨ds,dA,h⟩:=ah h
 refine WL.inl (us:=[.fn (.func 200) [] []]) (λrv st'=>(ds ()=some r∧Le rv (.fn (.func 214) [] [.pt 18 0])∧SLe st' (tS 17 18))) q q q q q ?_ (Zw q) q q ?_
 refine cI func180 λ_ _ _ _=>?_
 exact Rcl 2 q (Bx q q q (Rlx 10 q (af (rs1 q (ap q)) ⟨h,Zl,⟨q,Zp,Zp,Zp,Zp,Zp,Zp,Zp,Zp,Zp,Zp,Zp,Zp,Zp,Zp,Zp,Zp,Zp,Zp,Zt⟩⟩)))
 rintro rv st1 ⟨h,hr,hst⟩
 subst dA
 dsimp only at h
 exact WL.cast 19 q hr (WL.weak hst (WL.s0 (aO (λx:Int=>Value.int .u8 x) (λx:AV=>x) _ (u:= .fn (.func 214) [] [.pt 18 0]) (.inl q) underlying237 underlying146 (KeyF.int .u8) q q q q) (Zw q) q (Rl 2 q (Zn (Rcx 1 q (af (rs1 q (ap q)) ⟨h,Zl,⟨q,Zp,Zp,Zp,Zp,Zp,Zp,Zp,Zp,Zp,Zp,Zp,Zp,Zp,Zp,Zp,Zp,Zp,Zp,Zt⟩⟩))))))
 rintro rv st1 ⟨h,hr,hst⟩
 subst bb
 dsimp only at h
 refine WL.cast 22 q hr (WL.weak hst ?_)
 rcases bp h with⟨t,h⟩|⟨w,h⟩
 refine Rl 1 q (Zq (ba (λx:Int=>Value.int .u8 x) (λx:AV=>x) _ (k:=a) (z:= .d (.v .nilFunc)) underlying237 underlying146 (KeyF.int .u8) q q q kR q (by rw[t]<;>rfl) (by rw[t]<;>rfl)) q (Rl 5 q (Zn (Rcc 7 q (aW q (Rcc 3 q (WC.weak (st':=(dT 1 209 181 17)) Tv (WC.sub (env':=[(0, .d (D.i .u8 a)),(1, .n a1),(2, .n b2),(8, .fn (.func 214) [] [.pt 1 0])]) Sb (Rcl 4 q ?_)))))))))
 obtain⟨dS,d0,h⟩:=ah h
 refine WL.inl (us:=[.n a1, .n b2, .pt 1 0]) (λrv st'=>(dS ()=some r∧Le rv (.tu [.n (f181 a1 b2), .d (D.b true)])∧SLe st' (dT 1 209 181 17))) q q q q q ?_ (Zw q) q q ?_
 refine cI func214 λ_ _ _ _=>?_
 exact Rcl 11 q (wF Z4 (f181_c) Lw Z3 (Rlx 5 q (af (rs2 q (ap q) (ap q)) ⟨h,(Le.tu Lw),Tv⟩)))
 rintro rv st1 ⟨h,hr,hst⟩
 subst d0
 dsimp only at h
 exact WL.cast 32 q hr (WL.weak hst (Rl 4 q (Zn (Rcx 1 q (FA h)))))
 rcases bp h with⟨y,h⟩|⟨A,h⟩
 refine Rl 1 q (Zq (ba (λx:Int=>Value.int .u8 x) (λx:AV=>x) _ (k:=a) (z:= .d (.v .nilFunc)) underlying237 underlying146 (KeyF.int .u8) q q q kR q (by rw[y]<;>rfl) (by rw[y]<;>rfl)) q (Rl 5 q (Zn (Rcc 7 q (aW q (Rcc 3 q (WC.weak (st':=(dT 2 209 182 16)) Tv (WC.sub (env':=[(0, .d (D.i .u8 a)),(1, .n a1),(2, .n b2),(8, .fn (.func 214) [] [.pt 2 0])]) Sb (Rcl 4 q ?_)))))))))
 obtain⟨d1,d2,h⟩:=ah h
 refine WL.inl (us:=[.n a1, .n b2, .pt 2 0]) (λrv st'=>(d1 ()=some r∧Le rv (.tu [.n (f182 a1 b2), .d (D.b true)])∧SLe st' (dT 2 209 182 16))) q q q q q ?_ (Zw q) q q ?_
 refine cI func214 λ_ _ _ _=>?_
 exact Rcl 11 q (wF Z4 (f182_c) Lw Z3 (Rlx 5 q (af (rs2 q (ap q) (ap q)) ⟨h,(Le.tu Lw),Tv⟩)))
 rintro rv st1 ⟨h,hr,hst⟩
 subst d2
 dsimp only at h
 exact WL.cast 32 q hr (WL.weak hst (Rl 4 q (Zn (Rcx 1 q (FA h)))))
 rcases bp h with⟨B,h⟩|⟨C,h⟩
 refine Rl 1 q (Zq (ba (λx:Int=>Value.int .u8 x) (λx:AV=>x) _ (k:=a) (z:= .d (.v .nilFunc)) underlying237 underlying146 (KeyF.int .u8) q q q kR q (by rw[B]<;>rfl) (by rw[B]<;>rfl)) q (Rl 5 q (Zn (Rcc 7 q (aW q (Rcc 3 q (WC.weak (st':=(dT 3 209 183 15)) Tv (WC.sub (env':=[(0, .d (D.i .u8 a)),(1, .n a1),(2, .n b2),(8, .fn (.func 214) [] [.pt 3 0])]) Sb (Rcl 4 q ?_)))))))))
 obtain⟨d3,d',h⟩:=ah h
 refine WL.inl (us:=[.n a1, .n b2, .pt 3 0]) (λrv st'=>(d3 ()=some r∧Le rv (.tu [.n (f183 a1 b2), .d (D.b true)])∧SLe st' (dT 3 209 183 15))) q q q q q ?_ (Zw q) q q ?_
 refine cI func214 λ_ _ _ _=>?_
 exact Rcl 11 q (wF Z4 (f183_c) Lw Z3 (Rlx 5 q (af (rs2 q (ap q) (ap q)) ⟨h,(Le.tu Lw),Tv⟩)))
 rintro rv st1 ⟨h,hr,hst⟩
 subst d'
 dsimp only at h
 exact WL.cast 32 q hr (WL.weak hst (Rl 4 q (Zn (Rcx 1 q (FA h)))))
 rcases bp h with⟨E,h⟩|⟨F,h⟩
 refine Rl 1 q (Zq (ba (λx:Int=>Value.int .u8 x) (λx:AV=>x) _ (k:=a) (z:= .d (.v .nilFunc)) underlying237 underlying146 (KeyF.int .u8) q q q kR q (by rw[E]<;>rfl) (by rw[E]<;>rfl)) q (Rl 5 q (Zn (Rcc 7 q (aW q (Rcc 3 q (WC.weak (st':=(dT 4 209 185 14)) Tv (WC.sub (env':=[(0, .d (D.i .u8 a)),(1, .n a1),(2, .n b2),(8, .fn (.func 215) [] [.pt 4 0])]) Sb (Rcl 4 q ?_)))))))))
 obtain⟨ea,eb,h⟩:=ah h
 refine WL.inl (us:=[.n a1, .n b2, .pt 4 0]) (λrv st'=>(∃(e:Bool),∃(f:Int),ea e f=some r∧Le rv (.tu [.n f, .d (D.b e)])∧SLe st' (dT 4 209 185 14))) q q q q q ?_ (Zw q) q q ?_
 refine cI func215 λ_ _ _ _=>?_
 refine Rcc 13 q (Ci h q (λh=>Rcx 8 q (af (rs2 q (ap q) (ap q)) ⟨false,0,h,(Le.tu Lw),Tv⟩)) λh=>?_)
 refine Rcl 7 q ?_
 obtain⟨ee,ei,h⟩:=aa h
 exact wF Z4 (f185_c ei) Lw Z3 (Rlx 5 q (af (rs2 q (ap q) (ap q)) ⟨true,ee,h,(Le.tu Lw),Tv⟩))
 rintro rv st1 ⟨e,f,h,hr,hst⟩
 subst eb
 dsimp only at h
 exact WL.cast 32 q hr (WL.weak hst (Rl 4 q (Zn (Rcx 1 q (FA h)))))
 rcases bp h with⟨G,h⟩|⟨H,h⟩
 refine Rl 1 q (Zq (ba (λx:Int=>Value.int .u8 x) (λx:AV=>x) _ (k:=a) (z:= .d (.v .nilFunc)) underlying237 underlying146 (KeyF.int .u8) q q q kR q (by rw[G]<;>rfl) (by rw[G]<;>rfl)) q (Rl 5 q (Zn (Rcc 7 q (aW q (Rcc 3 q (WC.weak (st':=(dT 5 209 186 13)) Tv (WC.sub (env':=[(0, .d (D.i .u8 a)),(1, .n a1),(2, .n b2),(8, .fn (.func 215) [] [.pt 5 0])]) Sb (Rcl 4 q ?_)))))))))
 obtain⟨el,em,h⟩:=ah h
 refine WL.inl (us:=[.n a1, .n b2, .pt 5 0]) (λrv st'=>(∃(g:Bool),∃(j:Int),el g j=some r∧Le rv (.tu [.n j, .d (D.b g)])∧SLe st' (dT 5 209 186 13))) q q q q q ?_ (Zw q) q q ?_
 refine cI func215 λ_ _ _ _=>?_
 refine Rcc 13 q (Ci h q (λh=>Rcx 8 q (af (rs2 q (ap q) (ap q)) ⟨false,0,h,(Le.tu Lw),Tv⟩)) λh=>?_)
 refine Rcl 7 q ?_
 obtain⟨en,er,h⟩:=aa h
 exact wF Z4 (f186_c er) Lw Z3 (Rlx 5 q (af (rs2 q (ap q) (ap q)) ⟨true,en,h,(Le.tu Lw),Tv⟩))
 rintro rv st1 ⟨g,j,h,hr,hst⟩
 subst em
 dsimp only at h
 exact WL.cast 32 q hr (WL.weak hst (Rl 4 q (Zn (Rcx 1 q (FA h)))))
 rcases bp h with⟨I,h⟩|⟨J,h⟩
 refine Rl 1 q (Zq (ba (λx:Int=>Value.int .u8 x) (λx:AV=>x) _ (k:=a) (z:= .d (.v .nilFunc)) underlying237 underlying146 (KeyF.int .u8) q q q kR q (by rw[I]<;>rfl) (by rw[I]<;>rfl)) q (Rl 5 q (Zn (Rcc 7 q (aW q (Rcc 3 q (WC.weak (st':=(dT 6 209 187 12)) Tv (WC.sub (env':=[(0, .d (D.i .u8 a)),(1, .n a1),(2, .n b2),(8, .fn (.func 215) [] [.pt 6 0])]) Sb (Rcl 4 q ?_)))))))))
 obtain⟨es,et,h⟩:=ah h
 refine WL.inl (us:=[.n a1, .n b2, .pt 6 0]) (λrv st'=>(∃(m:Bool),∃(p:Int),es m p=some r∧Le rv (.tu [.n p, .d (D.b m)])∧SLe st' (dT 6 209 187 12))) q q q q q ?_ (Zw q) q q ?_
 refine cI func215 λ_ _ _ _=>?_
 refine Rcc 13 q (Ci h q (λh=>Rcx 8 q (af (rs2 q (ap q) (ap q)) ⟨false,0,h,(Le.tu Lw),Tv⟩)) λh=>?_)
 refine Rcl 7 q ?_
 obtain⟨ew,ex,h⟩:=aa h
 exact wF Z4 (f187_c ex) Lw Z3 (Rlx 5 q (af (rs2 q (ap q) (ap q)) ⟨true,ew,h,(Le.tu Lw),Tv⟩))
 rintro rv st1 ⟨m,p,h,hr,hst⟩
 subst et
 dsimp only at h
 exact WL.cast 32 q hr (WL.weak hst (Rl 4 q (Zn (Rcx 1 q (FA h)))))
 rcases bp h with⟨K,h⟩|⟨L,h⟩
 refine Rl 1 q (Zq (ba (λx:Int=>Value.int .u8 x) (λx:AV=>x) _ (k:=a) (z:= .d (.v .nilFunc)) underlying237 underlying146 (KeyF.int .u8) q q q kR q (by rw[K]<;>rfl) (by rw[K]<;>rfl)) q (Rl 5 q (Zn (Rcc 7 q (aW q (Rcc 3 q (WC.weak (st':=(dT 7 195 189 11)) Tv (WC.sub (env':=[(0, .d (D.i .u8 a)),(1, .n a1),(2, .n b2),(8, .fn (.func 216) [] [.pt 7 0])]) Sb (Rcl 4 q ?_)))))))))
 obtain⟨ey,e0,h⟩:=ah h
 refine WL.inl (us:=[.n a1, .n b2, .pt 7 0]) (λrv st'=>(ey ()=some r∧Le rv (.tu [.n (f217 (f189 a1 b2)), .d (D.b true)])∧SLe st' (dT 7 195 189 11))) q q q q q ?_ (Zw q) q q ?_
 refine cI func216 λ_ _ _ _=>?_
 exact Rcl 11 q (wF Z4 (f189_c) Lw Z3 (wF Z4 (f217_c) Lw Z3 (Rlx 5 q (af (rs2 q (ap q) (ap q)) ⟨h,(Le.tu Lw),Tv⟩))))
 rintro rv st1 ⟨h,hr,hst⟩
 subst e0
 dsimp only at h
 exact WL.cast 32 q hr (WL.weak hst (Rl 4 q (Zn (Rcx 1 q (FA h)))))
 rcases bp h with⟨M,h⟩|⟨N,h⟩
 refine Rl 1 q (Zq (ba (λx:Int=>Value.int .u8 x) (λx:AV=>x) _ (k:=a) (z:= .d (.v .nilFunc)) underlying237 underlying146 (KeyF.int .u8) q q q kR q (by rw[M]<;>rfl) (by rw[M]<;>rfl)) q (Rl 5 q (Zn (Rcc 7 q (aW q (Rcc 3 q (WC.weak (st':=(dT 8 195 190 10)) Tv (WC.sub (env':=[(0, .d (D.i .u8 a)),(1, .n a1),(2, .n b2),(8, .fn (.func 216) [] [.pt 8 0])]) Sb (Rcl 4 q ?_)))))))))
 obtain⟨e1,e2,h⟩:=ah h
 refine WL.inl (us:=[.n a1, .n b2, .pt 8 0]) (λrv st'=>(e1 ()=some r∧Le rv (.tu [.n (f217 (f190 a1 b2)), .d (D.b true)])∧SLe st' (dT 8 195 190 10))) q q q q q ?_ (Zw q) q q ?_
 refine cI func216 λ_ _ _ _=>?_
 exact Rcl 11 q (wF Z4 (f190_c) Lw Z3 (wF Z4 (f217_c) Lw Z3 (Rlx 5 q (af (rs2 q (ap q) (ap q)) ⟨h,(Le.tu Lw),Tv⟩))))
 rintro rv st1 ⟨h,hr,hst⟩
 subst e2
 dsimp only at h
 exact WL.cast 32 q hr (WL.weak hst (Rl 4 q (Zn (Rcx 1 q (FA h)))))
 rcases bp h with⟨O,h⟩|⟨P,h⟩
 refine Rl 1 q (Zq (ba (λx:Int=>Value.int .u8 x) (λx:AV=>x) _ (k:=a) (z:= .d (.v .nilFunc)) underlying237 underlying146 (KeyF.int .u8) q q q kR q (by rw[O]<;>rfl) (by rw[O]<;>rfl)) q (Rl 5 q (Zn (Rcc 7 q (aW q (Rcc 3 q (WC.weak (st':=(dT 9 195 191 9)) Tv (WC.sub (env':=[(0, .d (D.i .u8 a)),(1, .n a1),(2, .n b2),(8, .fn (.func 216) [] [.pt 9 0])]) Sb (Rcl 4 q ?_)))))))))
 obtain⟨e3,e4,h⟩:=ah h
 refine WL.inl (us:=[.n a1, .n b2, .pt 9 0]) (λrv st'=>(e3 ()=some r∧Le rv (.tu [.n (f217 (f191 a1 b2)), .d (D.b true)])∧SLe st' (dT 9 195 191 9))) q q q q q ?_ (Zw q) q q ?_
 refine cI func216 λ_ _ _ _=>?_
 exact Rcl 11 q (wF Z4 (f191_c) Lw Z3 (wF Z4 (f217_c) Lw Z3 (Rlx 5 q (af (rs2 q (ap q) (ap q)) ⟨h,(Le.tu Lw),Tv⟩))))
 rintro rv st1 ⟨h,hr,hst⟩
 subst e4
 dsimp only at h
 exact WL.cast 32 q hr (WL.weak hst (Rl 4 q (Zn (Rcx 1 q (FA h)))))
 rcases bp h with⟨Q,h⟩|⟨R,h⟩
 refine Rl 1 q (Zq (ba (λx:Int=>Value.int .u8 x) (λx:AV=>x) _ (k:=a) (z:= .d (.v .nilFunc)) underlying237 underlying146 (KeyF.int .u8) q q q kR q (by rw[Q]<;>rfl) (by rw[Q]<;>rfl)) q (Rl 5 q (Zn (Rcc 7 q (aW q (Rcc 3 q (WC.weak (st':=(dT 10 195 192 8)) Tv (WC.sub (env':=[(0, .d (D.i .u8 a)),(1, .n a1),(2, .n b2),(8, .fn (.func 216) [] [.pt 10 0])]) Sb (Rcl 4 q ?_)))))))))
 obtain⟨e5,e6,h⟩:=ah h
 refine WL.inl (us:=[.n a1, .n b2, .pt 10 0]) (λrv st'=>(e5 ()=some r∧Le rv (.tu [.n (f217 (f192 a1 b2)), .d (D.b true)])∧SLe st' (dT 10 195 192 8))) q q q q q ?_ (Zw q) q q ?_
 refine cI func216 λ_ _ _ _=>?_
 exact Rcl 11 q (wF Z4 (f192_c) Lw Z3 (wF Z4 (f217_c) Lw Z3 (Rlx 5 q (af (rs2 q (ap q) (ap q)) ⟨h,(Le.tu Lw),Tv⟩))))
 rintro rv st1 ⟨h,hr,hst⟩
 subst e6
 dsimp only at h
 exact WL.cast 32 q hr (WL.weak hst (Rl 4 q (Zn (Rcx 1 q (FA h)))))
 rcases bp h with⟨S,h⟩|⟨T,h⟩
 refine Rl 1 q (Zq (ba (λx:Int=>Value.int .u8 x) (λx:AV=>x) _ (k:=a) (z:= .d (.v .nilFunc)) underlying237 underlying146 (KeyF.int .u8) q q q kR q (by rw[S]<;>rfl) (by rw[S]<;>rfl)) q (Rl 5 q (Zn (Rcc 7 q (aW q (Rcc 3 q (WC.weak (st':=(dT 11 195 193 7)) Tv (WC.sub (env':=[(0, .d (D.i .u8 a)),(1, .n a1),(2, .n b2),(8, .fn (.func 216) [] [.pt 11 0])]) Sb (Rcl 4 q ?_)))))))))
 obtain⟨e7,e8,h⟩:=ah h
 refine WL.inl (us:=[.n a1, .n b2, .pt 11 0]) (λrv st'=>(e7 ()=some r∧Le rv (.tu [.n (f217 (f193 a1 b2)), .d (D.b true)])∧SLe st' (dT 11 195 193 7))) q q q q q ?_ (Zw q) q q ?_
 refine cI func216 λ_ _ _ _=>?_
 exact Rcl 11 q (wF Z4 (f193_c) Lw Z3 (wF Z4 (f217_c) Lw Z3 (Rlx 5 q (af (rs2 q (ap q) (ap q)) ⟨h,(Le.tu Lw),Tv⟩))))
 rintro rv st1 ⟨h,hr,hst⟩
 subst e8
 dsimp only at h
 exact WL.cast 32 q hr (WL.weak hst (Rl 4 q (Zn (Rcx 1 q (FA h)))))
 rcases bp h with⟨U,h⟩|⟨V,h⟩
 refine Rl 1 q (Zq (ba (λx:Int=>Value.int .u8 x) (λx:AV=>x) _ (k:=a) (z:= .d (.v .nilFunc)) underlying237 underlying146 (KeyF.int .u8) q q q kR q (by rw[U]<;>rfl) (by rw[U]<;>rfl)) q (Rl 5 q (Zn (Rcc 7 q (aW q (Rcc 3 q (WC.weak (st':=(dT 12 195 194 6)) Tv (WC.sub (env':=[(0, .d (D.i .u8 a)),(1, .n a1),(2, .n b2),(8, .fn (.func 216) [] [.pt 12 0])]) Sb (Rcl 4 q ?_)))))))))
 obtain⟨e',fo,h⟩:=ah h
 refine WL.inl (us:=[.n a1, .n b2, .pt 12 0]) (λrv st'=>(e' ()=some r∧Le rv (.tu [.n (f217 (f194 a1 b2)), .d (D.b true)])∧SLe st' (dT 12 195 194 6))) q q q q q ?_ (Zw q) q q ?_
 refine cI func216 λ_ _ _ _=>?_
 exact Rcl 11 q (wF Z4 (f194_c) Lw Z3 (wF Z4 (f217_c) Lw Z3 (Rlx 5 q (af (rs2 q (ap q) (ap q)) ⟨h,(Le.tu Lw),Tv⟩))))
 rintro rv st1 ⟨h,hr,hst⟩
 subst fo
 dsimp only at h
 exact WL.cast 32 q hr (WL.weak hst (Rl 4 q (Zn (Rcx 1 q (FA h)))))
 rcases bp h with⟨W,h⟩|⟨X,h⟩
 refine Rl 1 q (Zq (ba (λx:Int=>Value.int .u8 x) (λx:AV=>x) _ (k:=a) (z:= .d (.v .nilFunc)) underlying237 underlying146 (KeyF.int .u8) q q q kR q (by rw[W]<;>rfl) (by rw[W]<;>rfl)) q (Rl 5 q (Zn (Rcc 7 q (aW q (Rcc 3 q (WC.weak (st':=(dT 13 209 195 5)) Tv (WC.sub (env':=[(0, .d (D.i .u8 a)),(1, .n a1),(2, .n b2),(8, .fn (.func 214) [] [.pt 13 0])]) Sb (Rcl 4 q ?_)))))))))
 obtain⟨fr,fu,h⟩:=ah h
 refine WL.inl (us:=[.n a1, .n b2, .pt 13 0]) (λrv st'=>(fr ()=some r∧Le rv (.tu [.n (f195 a1 b2), .d (D.b true)])∧SLe st' (dT 13 209 195 5))) q q q q q ?_ (Zw q) q q ?_
 refine cI func214 λ_ _ _ _=>?_
 exact Rcl 11 q (wF Z4 (f195_c) Lw Z3 (Rlx 5 q (af (rs2 q (ap q) (ap q)) ⟨h,(Le.tu Lw),Tv⟩)))
 rintro rv st1 ⟨h,hr,hst⟩
 subst fu
 dsimp only at h
 exact WL.cast 32 q hr (WL.weak hst (Rl 4 q (Zn (Rcx 1 q (FA h)))))
 rcases bp h with⟨Y,h⟩|⟨Z,h⟩
 refine Rl 1 q (Zq (ba (λx:Int=>Value.int .u8 x) (λx:AV=>x) _ (k:=a) (z:= .d (.v .nilFunc)) underlying237 underlying146 (KeyF.int .u8) q q q kR q (by rw[Y]<;>rfl) (by rw[Y]<;>rfl)) q (Rl 5 q (Zn (Rcc 7 q (aW q (Rcc 3 q (WC.weak (st':=(dT 14 209 196 4)) Tv (WC.sub (env':=[(0, .d (D.i .u8 a)),(1, .n a1),(2, .n b2),(8, .fn (.func 214) [] [.pt 14 0])]) Sb (Rcl 4 q ?_)))))))))
 obtain⟨fv,fz,h⟩:=ah h
 refine WL.inl (us:=[.n a1, .n b2, .pt 14 0]) (λrv st'=>(fv ()=some r∧Le rv (.tu [.n (f196 a1 b2), .d (D.b true)])∧SLe st' (dT 14 209 196 4))) q q q q q ?_ (Zw q) q q ?_
 refine cI func214 λ_ _ _ _=>?_
 exact Rcl 11 q (wF Z4 (f196_c) Lw Z3 (Rlx 5 q (af (rs2 q (ap q) (ap q)) ⟨h,(Le.tu Lw),Tv⟩)))
 rintro rv st1 ⟨h,hr,hst⟩
 subst fz
 dsimp only at h
 exact WL.cast 32 q hr (WL.weak hst (Rl 4 q (Zn (Rcx 1 q (FA h)))))
 rcases bp h with⟨ad,h⟩|⟨ag,h⟩
 refine Rl 1 q (Zq (ba (λx:Int=>Value.int .u8 x) (λx:AV=>x) _ (k:=a) (z:= .d (.v .nilFunc)) underlying237 underlying146 (KeyF.int .u8) q q q kR q (by rw[ad]<;>rfl) (by rw[ad]<;>rfl)) q (Rl 5 q (Zn (Rcc 7 q (aW q (Rcc 3 q (WC.weak (st':=(dT 15 209 197 3)) Tv (WC.sub (env':=[(0, .d (D.i .u8 a)),(1, .n a1),(2, .n b2),(8, .fn (.func 214) [] [.pt 15 0])]) Sb (Rcl 4 q ?_)))))))))
 obtain⟨f0,f1,h⟩:=ah h
 refine WL.inl (us:=[.n a1, .n b2, .pt 15 0]) (λrv st'=>(f0 ()=some r∧Le rv (.tu [.n (f197 a1 b2), .d (D.b true)])∧SLe st' (dT 15 209 197 3))) q q q q q ?_ (Zw q) q q ?_
 refine cI func214 λ_ _ _ _=>?_
 exact Rcl 11 q (wF Z4 (f197_c) Lw Z3 (Rlx 5 q (af (rs2 q (ap q) (ap q)) ⟨h,(Le.tu Lw),Tv⟩)))
 rintro rv st1 ⟨h,hr,hst⟩
 subst f1
 dsimp only at h
 exact WL.cast 32 q hr (WL.weak hst (Rl 4 q (Zn (Rcx 1 q (FA h)))))
 rcases bp h with⟨ax,h⟩|⟨a0,h⟩
 refine Rl 1 q (Zq (ba (λx:Int=>Value.int .u8 x) (λx:AV=>x) _ (k:=a) (z:= .d (.v .nilFunc)) underlying237 underlying146 (KeyF.int .u8) q q q kR q (by rw[ax]<;>rfl) (by rw[ax]<;>rfl)) q (Rl 5 q (Zn (Rcc 7 q (aW q (Rcc 3 q (WC.weak (st':=(dT 16 209 198 2)) Tv (WC.sub (env':=[(0, .d (D.i .u8 a)),(1, .n a1),(2, .n b2),(8, .fn (.func 214) [] [.pt 16 0])]) Sb (Rcl 4 q ?_)))))))))
 obtain⟨f2,f3,h⟩:=ah h
 refine WL.inl (us:=[.n a1, .n b2, .pt 16 0]) (λrv st'=>(f2 ()=some r∧Le rv (.tu [.n (f198 a1 b2), .d (D.b true)])∧SLe st' (dT 16 209 198 2))) q q q q q ?_ (Zw q) q q ?_
 refine cI func214 λ_ _ _ _=>?_
 exact Rcl 11 q (wF Z4 (f198_c) Lw Z3 (Rlx 5 q (af (rs2 q (ap q) (ap q)) ⟨h,(Le.tu Lw),Tv⟩)))
 rintro rv st1 ⟨h,hr,hst⟩
 subst f3
 dsimp only at h
 exact WL.cast 32 q hr (WL.weak hst (Rl 4 q (Zn (Rcx 1 q (FA h)))))
 rcases bp h with⟨a6,h⟩|⟨a7,h⟩
 refine Rl 1 q (Zq (ba (λx:Int=>Value.int .u8 x) (λx:AV=>x) _ (k:=a) (z:= .d (.v .nilFunc)) underlying237 underlying146 (KeyF.int .u8) q q q kR q (by rw[a6]<;>rfl) (by rw[a6]<;>rfl)) q (Rl 5 q (Zn (Rcc 7 q (aW q (Rcc 3 q (WC.weak (st':=(dT 17 209 199 1)) Tv (WC.sub (env':=[(0, .d (D.i .u8 a)),(1, .n a1),(2, .n b2),(8, .fn (.func 214) [] [.pt 17 0])]) Sb (Rcl 4 q ?_)))))))))
 obtain⟨f4,f5,h⟩:=ah h
 refine WL.inl (us:=[.n a1, .n b2, .pt 17 0]) (λrv st'=>(f4 ()=some r∧Le rv (.tu [.n (f199 a1 b2), .d (D.b true)])∧SLe st' (dT 17 209 199 1))) q q q q q ?_ (Zw q) q q ?_
 refine cI func214 λ_ _ _ _=>?_
 exact Rcl 11 q (wF Z4 (f199_c) Lw Z3 (Rlx 5 q (af (rs2 q (ap q) (ap q)) ⟨h,(Le.tu Lw),Tv⟩)))
 rintro rv st1 ⟨h,hr,hst⟩
 subst f5
 dsimp only at h
 exact WL.cast 32 q hr (WL.weak hst (Rl 4 q (Zn (Rcx 1 q (FA h)))))
 rcases bp h with⟨a8,h⟩|⟨a9,h⟩
 refine Rl 1 q (Zq (ba (λx:Int=>Value.int .u8 x) (λx:AV=>x) _ (k:=a) (z:= .d (.v .nilFunc)) underlying237 underlying146 (KeyF.int .u8) q q q kR q (by rw[a8]<;>rfl) (by rw[a8]<;>rfl)) q (Rl 5 q (Zn (Rcc 7 q (aW q (Rcc 3 q (WC.weak (st':=(dT 18 209 200 0)) Tv (WC.sub (env':=[(0, .d (D.i .u8 a)),(1, .n a1),(2, .n b2),(8, .fn (.func 214) [] [.pt 18 0])]) Sb (Rcl 4 q ?_)))))))))
 obtain⟨f6,f7,h⟩:=ah h
 refine WL.inl (us:=[.n a1, .n b2, .pt 18 0]) (λrv st'=>(f6 ()=some r∧Le rv (.tu [.n (f200 a1 b2), .d (D.b true)])∧SLe st' (dT 18 209 200 0))) q q q q q ?_ (Zw q) q q ?_
 refine cI func214 λ_ _ _ _=>?_
 exact Rcl 11 q (wF Z4 (f200_c) Lw Z3 (Rlx 5 q (af (rs2 q (ap q) (ap q)) ⟨h,(Le.tu Lw),Tv⟩)))
 rintro rv st1 ⟨h,hr,hst⟩
 subst f7
 dsimp only at h
 exact WL.cast 32 q hr (WL.weak hst (Rl 4 q (Zn (Rcx 1 q (FA h)))))
 refine Rl 1 q (Zq (ba (λx:Int=>Value.int .u8 x) (λx:AV=>x) _ (k:=a) (z:= .d (.v .nilFunc)) underlying237 underlying146 (KeyF.int .u8) q q q kR q (by rw[show cA _ a=none from(aE w (aE A (aE C (aE F (aE H (aE J (aE L (aE N (aE P (aE R (aE T (aE V (aE X (aE Z (aE ag (aE a0 (aE a7 (aE a9 kY))))))))))))))))))]<;>rfl) (by rw[show cA _ a=none from(aE w (aE A (aE C (aE F (aE H (aE J (aE L (aE N (aE P (aE R (aE T (aE V (aE X (aE Z (aE ag (aE a0 (aE a7 (aE a9 kY))))))))))))))))))]<;>rfl)) q (Rl 5 q ?_))
 exact Zn (Rcc 7 q (bF q (Rcx 8 q (FA h))))

theorem f88_c{tR:Nat→Int}{tP:Int}{tX:Int}{tD:Int}{mI:lN}{mH:lH}{mO:lO}{mE:Int}{mN:lI}{mS:lL}{mU:lI}{tA:lA}{x1:ak}{vo:Nat}{vf:Nat}{vu:Nat}{va:Nat}{r:Rs ((Nat→Int)×Int×Int×Int)}(h:f88 tR tP tX tD mI mH mO mE mN mS mU tA x1=some r):CtrP prog 88 [.pt 0 0, .d (.ag (R45 x1))] (wT tR tP tX tD va mI mH mO mE vo mN vu vf mS mU tA) (cX 6 (λr' new=>∃(z:(Nat→Int)×Int×Int×Int),r= .ok z∧r'= .d (.tu [])∧new=[.row 116 (([.pt 1 0]:lV)++(bf 16 (λj=> .n (z.1 j))++([.n z.2.1, .n z.2.2.1, .n z.2.2.2, .os 5 va]:lV):lV)), .row 90 (mR mI mH mO mE 2 vo mN 4 vu),oS vo 3 vf mS,fS vf mS,uS vu mU, .os 58 6 va (eM R58 tA)])) (dU 6 (λc new=>∃(ee:Int),r= .bad ee∧c=cF ee∧new=(wD mI mH mO mE vo mN vu vf mS mU))):=by
 unfold f88 at h
 refine bC func88 kR q q q (λmm φφ ww hmm=>?_)
 refine Rcl 2 q (Bd q q (Zs _) q (Rlc 3 q (am kR kR (Rq 10 q ?_))))
 replace h:=av h
 obtain⟨e,h⟩:=h
 refine WQ.qn (ar dG q q (bx e) (bw e)) q (WQ.qn (bJ (off:=1) (n:=16) (λj=> .n (tR j)) q q a2 q e) q (Rq 6 q ?_))
 replace h:=av h
 obtain⟨f,h⟩:=h
 refine WQ.qn (ar dG q q (bx f) (bw f)) q (WQ.qn (bJ (off:=1) (n:=16) (λj=> .n (tR j)) q q a2 q f) q ?_)
 obtain⟨g,p,h⟩:=aa h
 refine WQ.q (YieldsQ.fn q q q q q (f132_c p) Lw) (Zw q) q q (Rq 5 q (WQ.nil (Rxc 8 q (Ci h q (λh=>?_) λh=>?_))))
 refine au (WLP.wing [] q q q q (f102_c (r:=Rs.bad 280) q) Zt q dC q Zt q q (Zw q) q q (λr' new hS=>?_) λc new hS=>?_)
 obtain⟨z9,hz,_⟩:=hS
 cases hz
 obtain⟨z9,hz,rfl,rfl⟩:=hS
 obtain rfl:=Rs.bad.inj hz
 refine⟨_,q,q,?_⟩
 refine aU ?_
 obtain rfl:=Oi h
 exact aV (new:=(wD mI mH mO mE vo mN vu vf mS mU)) q ⟨Zt,Zp,Zf,Zf,Zf,Zt,Zt⟩ ⟨_,q,q,q⟩
 refine Rcc 3 q ?_
 replace h:=av h
 obtain⟨k,h⟩:=h
 apply RT [_,_,_,_,_,_,_,_, .u] [8] [[.row 116 (([.pt 1 0]:lV)++(bf 16 (λj=> .n ((c8 tR (Int.toNat x1.d) g.1) j))++([.n tP, .n tX, .n tD, .os 5 va]:lV):lV)), .row 90 (mR mI mH mO mE 2 vo mN 4 vu),oS vo 3 vf mS,fS vf mS,uS vu mU, .os 58 6 va (eM R58 tA)]] [p01 0,p01 3,p10 1,p01 4,p10 0,p10 4,p10 5,p20 6 2,p20 7 3] kR kR q q
 refine Y7 ?_
 refine zo (λ_=>Zq (ar dG q q (bx k) (bw k)) q (Zd q q q)) ?_
 exact zo (λ_=>WL.s0 (eV (off:=1) (n:=16) (cs':=(([.pt 1 0]:lV)++(bf 16 (λj=> .n ((c8 tR (Int.toNat x1.d) g.1) j))++([.n tP, .n tX, .n tD, .os 5 va]:lV):lV))) (λx=> .n x) tR g.1 q q q (iJ q) s2 q q k q) (Zw q) q (aY q q)) Zt
 refine Rxc 1 q (au (WLP.pre 1 (Rl 1 q (WL.nil ?_))))
 obtain⟨t,m,h⟩:=aa h
 rcases t with a|w
 dsimp only[Rs.cs] at h
 refine WLP.wing [0,1,2,3,4,5] q q q q (f131_c m) Lw q dC (Re (Re (Rg (Rf (Ro (Ro q)))))) ⟨q,q,q,q,q,q,Zt⟩ Kv q (Zw q) q q (λr' new hS=>?_) (λc new hS=>?_)
 obtain⟨z9,hz,rfl,rfl⟩:=hS
 obtain rfl:=Rs.ok.inj hz
 refine⟨_,_,q,(Re (Re (Rg (Rf (Ro (Ro q)))))),q,Kv,WLP.of ?_⟩
 refine St q (WL.nil (bK ?_))
 obtain rfl:=Oi h
 exact WE.finP (az (new:=[.row 116 (([.pt 1 0]:lV)++(bf 16 (λj=> .n (a.1 j))++([.n a.2.1, .n a.2.2.1, .n a.2.2.2, .os 5 va]:lV):lV)), .row 90 (mR mI mH mO mE 2 vo mN 4 vu),oS vo 3 vf mS,fS vf mS,uS vu mU, .os 58 6 va (eM R58 tA)]) (r0:= .d (.tu [])) (bT q) (bd Zt) q ⟨Zp,Zp,Zf,Zf,Zf,Zf,Zt⟩ ⟨_,q,q,q⟩)
 obtain⟨z9,hz,_⟩:=hS
 cases hz
 dsimp only[Rs.cs] at h
 refine WLP.wing [0,1,2,3,4,5] q q q q (f131_c m) Lw q dC (Re (Re (Rg (Rf (Ro (Ro q)))))) ⟨q,q,q,q,q,q,Zt⟩ Kv q (Zw q) q q (λr' new hS=>?_) (λc new hS=>?_)
 obtain⟨z9,hz,_⟩:=hS
 cases hz
 obtain⟨z9,hz,rfl,rfl⟩:=hS
 obtain rfl:=Rs.bad.inj hz
 refine⟨_,(Re (Re (Rg (Rf (Ro (Re q)))))),Kv,?_⟩
 refine cv (st':=(wD mI mH mO mE vo mN vu vf mS mU)) q ?_
 obtain rfl:=Oi h
 exact aV (new:=(wD mI mH mO mE vo mN vu vf mS mU)) q ⟨Zt,Zp,Zf,Zf,Zf,Zt,Zt⟩ ⟨_,q,q,q⟩

theorem f47_c{mI:lN}{mH:lH}{mO:lO}{mE:Int}{mN:lI}{mS:lL}{mU:lI}{vo:Nat}{vf:Nat}{vu:Nat}{r:Bool}(h:f47 mI mH mO mE mN mS mU=some r):Ctr prog 47 [.pt 0 0] (wM mI mH mO mE vo mN vu vf mS mU) (cX 4 (λr' new=>r'= .d (.b r)∧new=(wM mI mH mO mE vo mN vu vf mS mU))):=by
 unfold f47 at h
 refine cI func47 λ_ _ _ hmm=>?_
 refine Rcl 8 q (Zq (tO underlying46 q) q (Rl 5 q (Zy (ab E45 mI e23 q q Zl) q q q (Rlx 6 q ?_))))
 obtain rfl:=Oi h
 exact az (new:=(wM mI mH mO mE vo mN vu vf mS mU)) (r0:= .d (.b (decide ((List.length mI:Int)=0)))) (rs1 q (ap q)) Zl q ⟨Zp,Zf,Zf,Zf,Zt⟩ ⟨q,q⟩

theorem f46_c{tR:Nat→Int}{tP:Int}{tX:Int}{tD:Int}{mI:lN}{mH:lH}{mO:lO}{mE:Int}{mN:lI}{mS:lL}{mU:lI}{tA:lA}{o1:Int}{vo:Nat}{vf:Nat}{vu:Nat}{va:Nat}{r:Nat}(h:f46 tR tP tX tD mI mH mO mE mN mS mU tA o1=some r):Ctr prog 46 [.pt 0 0, .d (D.i .u8 o1)] (wT tR tP tX tD va mI mH mO mE vo mN vu vf mS mU tA) (cX 6 (λr' new=>r'= .fn (.func r) [.pt 0 0] []∧new=(wT tR tP tX tD va mI mH mO mE vo mN vu vf mS mU tA))):=by
 unfold f46 at h
 refine cI func46 λ_ _ _ hmm=>?_
 refine Rcc 12 q (Jn1 (λa=> [(0, .pt 0 0),(5, .d (D.i .u8 o1)),(6, .d (D.b a))]) (λ_=>(wT tR tP tX tD va mI mH mO mE vo mN vu vf mS mU tA)) h (λ_ h=>?_) λa h=>?_)
 refine Rcc 6 q (Ci h q (λh=>Rcx 1 q (En1 h)) λh=>?_)
 exact Rcc 6 q (Ci h q (λh=>Rcx 1 q (En1 h)) λh=>Rcx 4 q (En1 h))
 refine Ci h q (λh=>?_) (λh=>?_)
 refine Rcx 10 q ?_
 obtain rfl:=Oi h
 exact az (new:=(wT tR tP tX tD va mI mH mO mE vo mN vu vf mS mU tA)) (r0:= .fn (.func 81) [.pt 0 0] []) (rs1 q (ap q)) Zl q ⟨Zp,Zp,Zf,Zf,Zf,Zf,Zt⟩ ⟨q,q⟩
 refine Jn1 (λe=> [(0, .pt 0 0),(5, .d (D.i .u8 o1)),(12, .d (D.b e))]) (λ_=>(wT tR tP tX tD va mI mH mO mE vo mN vu vf mS mU tA)) h (λ_ h=>?_) (λe h=>?_)
 refine Rcc 6 q (Ci h q (λh=>Rcx 1 q (En1 h)) λh=>?_)
 exact Rcc 6 q (Ci h q (λh=>Rcx 1 q (En1 h)) λh=>Rcx 4 q (En1 h))
 refine Ci h q (λh=>?_) (λh=>?_)
 refine Rcx 10 q ?_
 obtain rfl:=Oi h
 exact az (new:=(wT tR tP tX tD va mI mH mO mE vo mN vu vf mS mU tA)) (r0:= .fn (.func 82) [.pt 0 0] []) (rs1 q (ap q)) Zl q ⟨Zp,Zp,Zf,Zf,Zf,Zf,Zt⟩ ⟨q,q⟩
 refine Jn1 (λf=> [(0, .pt 0 0),(5, .d (D.i .u8 o1)),(18, .d (D.b f))]) (λ_=>(wT tR tP tX tD va mI mH mO mE vo mN vu vf mS mU tA)) h (λ_ h=>?_) (λf h=>?_)
 refine Rcc 6 q (Ci h q (λh=>Rcx 1 q (En1 h)) λh=>?_)
 refine Rcc 6 q (Ci h q (λh=>Rcx 1 q (En1 h)) λh=>?_)
 exact Rcc 6 q (Ci h q (λh=>Rcx 1 q (En1 h)) λh=>Rcx 4 q (En1 h))
 refine Ci h q (λh=>?_) (λh=>?_)
 refine Rcx 10 q ?_
 obtain rfl:=Oi h
 exact az (new:=(wT tR tP tX tD va mI mH mO mE vo mN vu vf mS mU tA)) (r0:= .fn (.func 83) [.pt 0 0] []) (rs1 q (ap q)) Zl q ⟨Zp,Zp,Zf,Zf,Zf,Zf,Zt⟩ ⟨q,q⟩
 refine Jn1 (λg=> [(0, .pt 0 0),(5, .d (D.i .u8 o1)),(25, .d (D.b g))]) (λ_=>(wT tR tP tX tD va mI mH mO mE vo mN vu vf mS mU tA)) h (λ_ h=>?_) (λg h=>?_)
 exact Rcc 6 q (Ci h q (λh=>Rcx 1 q (En1 h)) λh=>Rcx 4 q (En1 h))
 refine Ci h q (λh=>?_) (λh=>?_)
 refine Rcx 10 q ?_
 obtain rfl:=Oi h
 exact az (new:=(wT tR tP tX tD va mI mH mO mE vo mN vu vf mS mU tA)) (r0:= .fn (.func 84) [.pt 0 0] []) (rs1 q (ap q)) Zl q ⟨Zp,Zp,Zf,Zf,Zf,Zf,Zt⟩ ⟨q,q⟩
 refine Jn1 (λj=> [(0, .pt 0 0),(5, .d (D.i .u8 o1)),(30, .d (D.b j))]) (λ_=>(wT tR tP tX tD va mI mH mO mE vo mN vu vf mS mU tA)) h (λ_ h=>?_) (λj h=>?_)
 refine Rcc 6 q (Ci h q (λh=>Rcx 1 q (En1 h)) λh=>?_)
 exact Rcc 6 q (Ci h q (λh=>Rcx 1 q (En1 h)) λh=>Rcx 4 q (En1 h))
 refine Ci h q (λh=>?_) (λh=>?_)
 refine Rcx 10 q ?_
 obtain rfl:=Oi h
 exact az (new:=(wT tR tP tX tD va mI mH mO mE vo mN vu vf mS mU tA)) (r0:= .fn (.func 85) [.pt 0 0] []) (rs1 q (ap q)) Zl q ⟨Zp,Zp,Zf,Zf,Zf,Zf,Zt⟩ ⟨q,q⟩
 refine Jn1 (λk=> [(0, .pt 0 0),(5, .d (D.i .u8 o1)),(36, .d (D.b k))]) (λ_=>(wT tR tP tX tD va mI mH mO mE vo mN vu vf mS mU tA)) h (λ_ h=>?_) (λk h=>?_)
 refine Rcc 6 q (Ci h q (λh=>Rcx 1 q (En1 h)) λh=>?_)
 exact Rcc 6 q (Ci h q (λh=>Rcx 1 q (En1 h)) λh=>Rcx 4 q (En1 h))
 refine Ci h q (λh=>?_) (λh=>?_)
 refine Rcx 10 q ?_
 obtain rfl:=Oi h
 exact az (new:=(wT tR tP tX tD va mI mH mO mE vo mN vu vf mS mU tA)) (r0:= .fn (.func 86) [.pt 0 0] []) (rs1 q (ap q)) Zl q ⟨Zp,Zp,Zf,Zf,Zf,Zf,Zt⟩ ⟨q,q⟩
 refine Jn1 (λm=> [(0, .pt 0 0),(42, .d (D.b m))]) (λ_=>(wT tR tP tX tD va mI mH mO mE vo mN vu vf mS mU tA)) h (λ_ h=>?_) (λm h=>?_)
 refine Rcc 6 q (Ci h q (λh=>Rcx 1 q (En1 h)) λh=>?_)
 refine Rcc 6 q (Ci h q (λh=>Rcx 1 q (En1 h)) λh=>?_)
 refine Rcc 6 q (Ci h q (λh=>Rcx 1 q (En1 h)) λh=>?_)
 exact Rcc 6 q (Ci h q (λh=>Rcx 1 q (En1 h)) λh=>Rcx 4 q (En1 h))
 refine Ci h q (λh=>?_) (λh=>?_)
 refine Rcx 10 q ?_
 obtain rfl:=Oi h
 exact az (new:=(wT tR tP tX tD va mI mH mO mE vo mN vu vf mS mU tA)) (r0:= .fn (.func 87) [.pt 0 0] []) (rs1 q (ap q)) Zl q ⟨Zp,Zp,Zf,Zf,Zf,Zf,Zt⟩ ⟨q,q⟩
 refine Rcx 11 q ?_
 obtain rfl:=Oi h
 exact az (new:=(wT tR tP tX tD va mI mH mO mE vo mN vu vf mS mU tA)) (r0:= .fn (.func 88) [.pt 0 0] []) (rs1 q (ap q)) Zl q ⟨Zp,Zp,Zf,Zf,Zf,Zf,Zt⟩ ⟨q,q⟩

theorem fm_c{n:Nat}{tR:Nat→Int}{tP:Int}{tX:Int}{tD:Int}{mI:lN}{mH:lH}{mO:lO}{mE:Int}{mN:lI}{mS:lL}{mU:lI}{tA:lA}{x:ak}{vo vf vu va:Nat}{r:Rs ((Nat→Int)×Int×Int×Int×lI×lL×lI×lA)}(h:fm n tR tP tX tD mI mH mO mE mN mS mU tA x=some r):CtrP prog n [.pt 0 0, .d (.ag (R45 x))] (wT tR tP tX tD va mI mH mO mE vo mN vu vf mS mU tA) (cX 6 (λr' new=>∃(z:(Nat→Int)×Int×Int×Int×lI×lL×lI×lA)(i3 i4 i5:Nat),r= .ok z∧r'= .d (.tu [])∧new=[.row 116 (([.pt 1 0]:lV)++(bf 16 (λj=> .n (z.1 j))++([.n z.2.1, .n z.2.2.1, .n z.2.2.2.1, .os 5 i5]:lV):lV)), .row 90 (mR mI mH mO mE 2 vo z.2.2.2.2.1 4 i4), .os 42 1 vo (bg 3 i3 (List.length z.2.2.2.2.2.1)), .fam 2 1 i3 (bc E2 z.2.2.2.2.2.1), .os 2 1 i4 (eM E2 z.2.2.2.2.2.2.1), .os 58 6 i5 (eM R58 z.2.2.2.2.2.2.2)])) (dU 6 (λc new=>∃(ee:Int),r= .bad ee∧c=cF ee∧new=(wD mI mH mO mE vo mN vu vf mS mU))):=by
 unfold fm at h
 rcases cT h with⟨hn,h⟩|⟨_,h⟩
 have hn:=nbE hn
 subst hn
 obtain⟨r0,hr,h⟩:=aa h
 obtain rfl:=Oi h
 refine CtrP.mono (f81_c hr) ?_ ?_
 rintro r1 st1 ⟨hk,z,hz,a,hst⟩
 subst hz
 exact⟨hk,_,vf,vu,va,q,a,hst⟩
 rintro c st1 ⟨hk,ee,hz,hc,hst⟩
 subst hz
 exact⟨hk,_,q,hc,hst⟩
 rcases cT h with⟨hn,h⟩|⟨_,h⟩
 have hn:=nbE hn
 subst hn
 obtain⟨r0,hr,h⟩:=aa h
 obtain rfl:=Oi h
 refine CtrP.mono (f82_c hr) ?_ ?_
 rintro r1 st1 ⟨hk,z,j3,hz,a,hst⟩
 subst hz
 exact⟨hk,_,j3,vu,va,q,a,hst⟩
 rintro c st1 ⟨hk,ee,hz,hc,hst⟩
 subst hz
 exact⟨hk,_,q,hc,hst⟩
 rcases cT h with⟨hn,h⟩|⟨_,h⟩
 have hn:=nbE hn
 subst hn
 obtain⟨r0,hr,h⟩:=aa h
 obtain rfl:=Oi h
 refine CtrP.mono (f83_c hr) ?_ ?_
 rintro r1 st1 ⟨hk,z,hz,a,hst⟩
 subst hz
 exact⟨hk,_,vf,vu,va,q,a,hst⟩
 rintro c st1 ⟨hk,ee,hz,hc,hst⟩
 subst hz
 exact⟨hk,_,q,hc,hst⟩
 rcases cT h with⟨hn,h⟩|⟨_,h⟩
 have hn:=nbE hn
 subst hn
 obtain⟨r0,hr,h⟩:=aa h
 obtain rfl:=Oi h
 refine CtrP.mono (f84_c hr) ?_ ?_
 rintro r1 st1 ⟨hk,z,j5,hz,a,hst⟩
 subst hz
 exact⟨hk,_,vf,vu,j5,q,a,hst⟩
 rintro c st1 ⟨hk,ee,hz,hc,hst⟩
 subst hz
 exact⟨hk,_,q,hc,hst⟩
 rcases cT h with⟨hn,h⟩|⟨_,h⟩
 have hn:=nbE hn
 subst hn
 obtain⟨r0,hr,h⟩:=aa h
 obtain rfl:=Oi h
 refine CtrP.mono (f85_c hr) ?_ ?_
 rintro r1 st1 ⟨hk,z,j5,hz,a,hst⟩
 subst hz
 exact⟨hk,_,vf,vu,j5,q,a,hst⟩
 rintro c st1 ⟨hk,ee,hz,hc,hst⟩
 subst hz
 exact⟨hk,_,q,hc,hst⟩
 rcases cT h with⟨hn,h⟩|⟨_,h⟩
 have hn:=nbE hn
 subst hn
 obtain⟨r0,hr,h⟩:=aa h
 obtain rfl:=Oi h
 refine CtrP.mono (f86_c hr) ?_ ?_
 rintro r1 st1 ⟨hk,z,j4,j5,hz,a,hst⟩
 subst hz
 exact⟨hk,_,vf,j4,j5,q,a,hst⟩
 rintro c st1 ⟨hk,ee,hz,hc,hst⟩
 subst hz
 exact⟨hk,_,q,hc,hst⟩
 rcases cT h with⟨hn,h⟩|⟨_,h⟩
 have hn:=nbE hn
 subst hn
 obtain⟨r0,hr,h⟩:=aa h
 obtain rfl:=Oi h
 refine CtrP.mono (f87_c hr) ?_ ?_
 rintro r1 st1 ⟨hk,z,hz,a,hst⟩
 subst hz
 exact⟨hk,_,vf,vu,va,q,a,hst⟩
 rintro c st1 ⟨hk,ee,hz,hc,hst⟩
 subst hz
 exact⟨hk,_,q,hc,hst⟩
 rcases cT h with⟨hn,h⟩|⟨_,h⟩
 have hn:=nbE hn
 subst hn
 obtain⟨r0,hr,h⟩:=aa h
 obtain rfl:=Oi h
 refine CtrP.mono (f88_c hr) ?_ ?_
 rintro r1 st1 ⟨hk,z,hz,a,hst⟩
 subst hz
 exact⟨hk,_,vf,vu,va,q,a,hst⟩
 rintro c st1 ⟨hk,ee,hz,hc,hst⟩
 subst hz
 exact⟨hk,_,q,hc,hst⟩
 cases h

theorem f45_c{tR:Nat→Int}{tP:Int}{tX:Int}{tD:Int}{mI:lN}{mH:lH}{mO:lO}{mE:Int}{mN:lI}{mS:lL}{mU:lI}{tA:lA}{vo:Nat}{vf:Nat}{vu:Nat}{va:Nat}{r:Rs ((Nat→Int)×Int×Int×Int×lI×lL×lI×lA)}(h:f45 tR tP tX tD mI mH mO mE mN mS mU tA=some r):CtrP prog 45 [.pt 0 0] (wT tR tP tX tD va mI mH mO mE vo mN vu vf mS mU tA) (cX 6 (λr' new=>∃(z:(Nat→Int)×Int×Int×Int×lI×lL×lI×lA)(i3 i4 i5:Nat),r= .ok z∧r'= .d (.tu [])∧new=[.row 116 (([.pt 1 0]:lV)++(bf 16 (λj=> .n (z.1 j))++([.n z.2.1, .n z.2.2.1, .n z.2.2.2.1, .os 5 i5]:lV):lV)), .row 90 (mR mI mH mO mE 2 vo z.2.2.2.2.1 4 i4), .os 42 1 vo (bg 3 i3 (List.length z.2.2.2.2.2.1)), .fam 2 1 i3 (bc E2 z.2.2.2.2.2.1), .os 2 1 i4 (eM E2 z.2.2.2.2.2.2.1), .os 58 6 i5 (eM R58 z.2.2.2.2.2.2.2)])) (dU 6 (λc new=>∃(ee:Int),r= .bad ee∧c=cF ee∧new=(wD mI mH mO mE vo mN vu vf mS mU))):=by
 unfold f45 at h
 refine bC func45 kR q q q (λmm φφ ww hmm=>?_)
 refine Rcc 1 q ?_
 obtain⟨e,g,h⟩:=aa h
 apply RT [_,_,_,_,_,_,_,_,_,_,_,_,_,_,_, .u] [14,15] [[.row 116 (tQ 1 tR tP tX tD 5 va), .row 90 (mR mI mH mO mE 2 vo mN 4 vu),oS vo 3 vf mS,fS vf mS,uS vu mU, .os 58 6 va (eM R58 tA), .row 45 [.d (D.i .u8 0), .n 0, .n 0, .n 0, .n 0, .n 0, .n 0]],[.row 116 (tQ 1 tR tP tX tD 5 va), .row 90 (mR mI mH mO mE 2 vo mN 4 vu),oS vo 3 vf mS,fS vf mS,uS vu mU, .os 58 6 va (eM R58 tA), .row 45 [.d (D.i .u8 e.op), .n e.d, .n e.a, .n e.b, .n e.n, .n e.m, .n e.to]]] [u01 0,u10 0,u10 1,u10 2,u10 3,u10 4,u10 5,u01 0,u10 7,u10 8,u10 9,u10 10,u20 6 11,u10 12,p00,q20 14 13 1] kR kR q q
 refine X2d ?_
 refine X2d ?_
 refine X2d ?_
 refine⟨⟨λ_=>Zq (aj e23 q Zl q (ae g) (aR dE g) q) q (Zd q q q),λ_=>Zq (aj e23 q Zl q (ae g) (aR dE g) q) q (Zd q q q),Zt⟩,?_⟩
 refine X2a ?_
 refine zo (λ_=>Al z45 q (Zd q q q)) ?_
 exact zo (λ_=>sS Z6 s45 Z2 (aY q q)) Zt
 refine Rxl 6 q (wF Z4 (f36_c) Lw Z3 (Rlc 3 q (Ci h q (λh=>?_) λh=>?_)))
 refine au (WLP.pre 2 (Zq (aB p118 tJ q q) q (Zq (fC (p:= .ag (R118 (nQ.mk 8))) kR q (aw (Zs _))) q (WL.nil (pr q q (aU ?_))))))
 obtain rfl:=Oi h
 exact aV (new:=(wD mI mH mO mE vo mN vu vf mS mU)) q ⟨Zt,Zp,Zf,Zf,Zf,Zt,Zt⟩ ⟨_,q,q,q⟩
 refine Rcc 2 q ?_
 obtain⟨x,t,h⟩:=aa h
 apply jF [_,_,_,_,_, .u] [[],[],[1],[0,1,2],[],[0,1,2,3,4]] [] (λc=>List.getD [[.row 116 (tQ 1 tR tP tX tD 5 va), .row 90 (mR mI mH mO mE 2 vo mN 4 vu),oS vo 3 vf mS,fS vf mS,uS vu mU, .os 58 6 va (eM R58 tA), .row 45 [.d (D.i .u8 e.op), .n e.d, .n e.a, .n e.b, .n e.n, .n e.m, .n e.to]]] c []) [([],[0],[0]),([],[2],[0]),([1],[],[0]),([0,2],[],[0]),([],[2],[0]),([3,4],[],[0])] 5 (l0:=_) (o:=_) (by exact(List.take_append_drop 5 _).symm) q kR kR q q q q
 refine⟨?_,?_,?_,?_,?_,Zt⟩
 exact O1 q (λ_=>q) q q
 exact O1 q (λ_=>q) q q
 exact O1 q (λ_=>q) q q
 refine⟨λF=>?_,Zt⟩
 refine WL.wing [0,1,2,3,4,5] q q q q (f46_c t) Lw q dC (Re (Re (Rg (Rf (Ro (Ro q)))))) ⟨q,q,q,q,q,q,Zt⟩ Kv q (Zw q) q q (λr' new hS=>?_)
 obtain⟨rfl,rfl⟩:=hS
 refine⟨_,_,q,(Re (Re (Rg (Rf (Ro (Ro q)))))),q,Kv,?_⟩
 exact Zd q q q
 exact O1 q (λ_=>q) q q
 obtain⟨w,k,h⟩:=aa h
 rcases w with f|e36
 dsimp only[Rs.cs] at h
 refine WLP.wing [0,1,2,3,4,5] q q q q (fm_c k) ⟨Zl,(aw (Zs _)),Zt⟩ q dC (Re (Re (Rg (Rf (Ro (Ro q)))))) ⟨q,q,q,q,q,q,Zt⟩ Kv q (Zw q) q q (λr' new hS=>?_) (λc new hS=>?_)
 obtain⟨z9,i3_37,i4_37,i5_37,hz,rfl,rfl⟩:=hS
 obtain rfl:=Rs.ok.inj hz
 refine⟨_,_,q,(Re (Re (Rg (Rf (Ro (Ro q)))))),q,Kv,WLP.of ?_⟩
 refine St q (WL.nil (bK ?_))
 obtain rfl:=Oi h
 exact WE.finP (az (new:=[.row 116 (([.pt 1 0]:lV)++(bf 16 (λj=> .n (f.1 j))++([.n f.2.1, .n f.2.2.1, .n f.2.2.2.1, .os 5 i5_37]:lV):lV)), .row 90 (mR mI mH mO mE 2 vo f.2.2.2.2.1 4 i4_37), .os 42 1 vo (bg 3 i3_37 (List.length f.2.2.2.2.2.1)), .fam 2 1 i3_37 (bc E2 f.2.2.2.2.2.1), .os 2 1 i4_37 (eM E2 f.2.2.2.2.2.2.1), .os 58 6 i5_37 (eM R58 f.2.2.2.2.2.2.2)]) (r0:= .d (.tu [])) (bT q) (bd Zt) q ⟨Zp,Zp,Zf,Zf,Zf,Zf,Zt⟩ ⟨_,i3_37,i4_37,i5_37,q,q,q⟩)
 obtain⟨z9,hz,_⟩:=hS
 cases hz
 dsimp only[Rs.cs] at h
 refine WLP.wing [0,1,2,3,4,5] q q q q (fm_c k) ⟨Zl,(aw (Zs _)),Zt⟩ q dC (Re (Re (Rg (Rf (Ro (Ro q)))))) ⟨q,q,q,q,q,q,Zt⟩ Kv q (Zw q) q q (λr' new hS=>?_) (λc new hS=>?_)
 obtain⟨z9,i3_37,i4_37,i5_37,hz,_⟩:=hS
 cases hz
 obtain⟨z9,hz,rfl,rfl⟩:=hS
 obtain rfl:=Rs.bad.inj hz
 refine⟨_,(Re (Re (Rg (Rf (Ro (Re q)))))),Kv,?_⟩
 refine cv (st':=[.z, .row 90 (mR mI mH mO mE 2 vo mN 4 vu),oS vo 3 vf mS,fS vf mS,uS vu mU, .z, .row 45 [.d (D.i .u8 e.op), .n e.d, .n e.a, .n e.b, .n e.n, .n e.m, .n e.to]]) q ?_
 obtain rfl:=Oi h
 exact aV (new:=(wD mI mH mO mE vo mN vu vf mS mU)) q ⟨Zt,Zp,Zf,Zf,Zf,Zt,Zt⟩ ⟨_,q,q,q⟩

theorem qK{a b c:AV}{st:lW}:DSp prog 80 [a,b,c] st .returning .returning st:=by
 refine lg (v:= .nilIface) (va:= .d (.v .nilIface)) func80 kR q q q q q (λc0 cs hu=>?_) (λ_ _ _=>by simp[RA,RD]) (λmm φφ ww hmm=>?_)
 right
 refine⟨?_,q,q⟩
 simp[recoverD,hu]
 exact WC.sub (env':=[(6, .d (.v .nilIface)),(0, .u),(1, .u),(2, .u)]) (Sx q (Sub.cons q (Le.u _) (Sub.cons q (Le.u _) (Sub.cons q (Le.u _) (Sub.nil _))))) (Rcl 3 q (Zq (sd kR q) q (Rlc 2 q (bF q (Rcx 4 q (cZ (SLe.refl _)))))))

theorem qL{e:Int}:DSp prog 80 [.pt 0 0, .pt 1 0, .pt 2 0] [.row 41 n19, .row 50 [sN], .row 47 [.n 0]] (.panicking (cF e)) (.panicking [{ v:= .iface 118 (.agg ⟨[.int .i64 e]⟩),recovered:=true }]) [.row 41 n19, .row 50 [sN], .row 47 [.n e]]:=by
 refine lg (v:= .iface 118 (.agg ⟨[.int .i64 e]⟩)) (va:= .d (.ifc 118 (.ag [D.i .i64 e]))) func80 kR q q q q q (λc0 cs hu=>?_) (λ_ _ _=>sJ q) (λmm φφ ww hmm=>?_)
 left
 refine⟨_,?_,q⟩
 simp[recoverD,hu,cF]
 refine Rcl 3 q (Zq (se kR q) q (Rlc 2 q (aW q (Rcl 2 q (Zq (pK kR q) q (Rlc 4 q (bF q (Rcl 2 q (Al tJ q (sS Z6 s118 Z2 (Rlc 2 q ?_)))))))))))
 apply RT [_,_,_, .u, .u, .u] [5] [[.row 41 n19, .row 50 [sN], .row 47 [.n ((nQ.mk e).e)], .row 118 [.n ((nQ.mk e).e)]]] [p00,p01 4,p10 1,p11 0 0,p01 1,p11 2 2] kR kR q q
 refine zo (λ_=>Zq (aB p41 z41 q q) q (Zd q q q)) ?_
 refine Y2 ?_
 refine zo (λ_=>sS Z6 s41 Z2 (aY q q)) ?_
 refine zo (λ_=>sS Z6 s50 Z2 (aY q q)) ?_
 exact zo (λ_=>sS Z6 s47 Z2 (aY q q)) Zt
 exact Rxx 1 q (WE.drop 3 (env':=[]) (Sub.nil _) q q (Nat.le_trans (Nat.le_of_eq hmm) (nbT q)) (cZ ⟨OLe.refl _,OLe.refl _,OLe.refl _,Zt⟩))

theorem f44_45_c{mI:lN}{mH:lH}{mO:lO}{mE:Int}{mN:lI}{mS:lL}{mU:lI}{r1:bj}{k:Bool}{vo:Nat}{vf:Nat}{vu:Nat}{r:bj×lA×Int×lI×lL×lI}(h:f44_45 mI mH mO mE mN mS mU r1 k=some r):Ctr prog 44 [.pt 0 0, .d (.ag (R41 r1)), .d (D.b k), .fn (.func 45) [] []] (wM mI mH mO mE vo mN vu vf mS mU) (cX 4 (λr' new=>∃i2 i3:Nat,r'= .d (.tu [.ag (R41 r.1), .sl (List.map E58 r.2.1), .i .i64 r.2.2.1])∧new=[.row 90 (mR mI mH mO mE 1 vo r.2.2.2.1 3 i3), .os 42 1 vo (bg 2 i2 (List.length r.2.2.2.2.1)), .fam 2 1 i2 (bc E2 r.2.2.2.2.1), .os 2 1 i3 (eM E2 r.2.2.2.2.2)])):=by
 unfold f44_45 at h
 refine oO func44 kR q q q (λmm φφ ww hmm=>?_)
 refine Rcl 2 q (Bd q q (Zs _) q (Al z41 q (Al z50 q (Al z47 q (Rll 7 q ?_)))))
 obtain⟨y,w,h⟩:=aa h
 refine WL.wing [0,1,2,3] q q q q (f47_c w) Lw q dC (Re (Rg (Rf (Ro q)))) ⟨q,q,q,q,Zt⟩ Kv q (Zw q) q q (λr' new hS=>?_)
 obtain⟨rfl,rfl⟩:=hS
 refine⟨_,_,q,(Re (Rg (Rf (Ro q)))),q,Kv,?_⟩
 refine St q (Rlc 3 q (Ci h q (λh=>?_) λh=>?_))
 refine Rcl 2 q (Zq (aB p41 z41 q q) q (sS Z6 s41 Z2 (St q (sS Z6 s50 Z2 (sS Z6 s47 Z2 (Rlx 5 q ?_))))))
 obtain rfl:=Oi h
 exact az (new:=(wM mI mH mO mE vo mN vu vf mS mU)) (r0:= .d (.tu [.ag (R41 (bj.mk (λj=>0) 0 0 0)), .sl (List.map E58 []), .i .i64 1])) (rs3 q (cz q q a41 s41 q) (fb q q a50 q) (fb q q a47 q)) (bd ⟨(aw (Zs _)),Le.nil,Zl,Zt⟩) q ⟨Zp,Zf,Zf,Zf,Zt⟩ ⟨vf,vu,q,q⟩
 refine Rcc 1 q (am kR kR (Rq 4 q ?_))
 apply WQ.or 9 (t:=20) (d:=29)
 exact q
 intro A
 exact Rq 6 q (WQ.qy (ab E45 mI e23 q q Zl) q q q (Rq 2 q (WQ.nil ⟨[_,_,_,_,_,_,_,_,_],q,q,q⟩)))
 exact Rq 9 q (WQ.nil ⟨[_,_,_,_,_,_,_,_,_],q,q,q⟩)
 refine Rq 1 q ?_
 apply WQ.or 4 (t:=30) (d:=34)
 exact q
 intro B
 exact Rq 4 q (WQ.nil ⟨[_,_,_,_],q,q,q⟩)
 exact Rq 4 q (WQ.nil ⟨[_,_,_,_],q,q,q⟩)
 refine Rq 1 q ?_
 apply WQ.or 8 (t:=35) (d:=43)
 exact q
 intro C
 exact Rq 8 q (WQ.nil ⟨[_,_,_,_,_,_,_,_],q,q,q⟩)
 exact Rq 8 q (WQ.nil ⟨[_,_,_,_,_,_,_,_],q,q,q⟩)
 refine Rq 1 q ?_
 apply WQ.or 4 (t:=44) (d:=48)
 exact q
 intro E
 exact Rq 4 q (WQ.nil ⟨[_,_,_,_],q,q,q⟩)
 exact Rq 4 q (WQ.nil ⟨[_,_,_,_],q,q,q⟩)
 refine Rq 1 q ?_
 apply WQ.or 4 (t:=49) (d:=53)
 exact q
 intro F
 exact Rq 4 q (WQ.nil ⟨[_,_,_,_],q,q,q⟩)
 exact Rq 4 q (WQ.nil ⟨[_,_,_,_],q,q,q⟩)
 refine Rq 1 q ?_
 apply WQ.or 3 (t:=54) (d:=57)
 exact q
 intro G
 exact Rq 3 q (WQ.nil ⟨[_,_,_],q,q,q⟩)
 exact Rq 3 q (WQ.nil ⟨[_,_,_],q,q,q⟩)
 refine Rq 1 q (WQ.nil (Rxc 1 q (Ci h q (λh=>?_) λh=>?_)))
 refine Rcl 2 q (Zq (aB p41 z41 q q) q (sS Z6 s41 Z2 (St q (sS Z6 s50 Z2 (sS Z6 s47 Z2 (Rlx 5 q ?_))))))
 obtain rfl:=Oi h
 exact az (new:=(wM mI mH mO mE vo mN vu vf mS mU)) (r0:= .d (.tu [.ag (R41 (bj.mk (λj=>0) 0 0 0)), .sl (List.map E58 []), .i .i64 2])) (rs3 q (cz q q a41 s41 q) (fb q q a50 q) (fb q q a47 q)) (bd ⟨(aw (Zs _)),Le.nil,Zl,Zt⟩) q ⟨Zp,Zf,Zf,Zf,Zt⟩ ⟨vf,vu,q,q⟩
 refine Rcc 4 q (pT (f:=80) (caps:=[.pt 4 0, .pt 5 0, .pt 6 0]) 1 q q q (Rl 1 q (WL.nil ⟨q,λmD φD wD vsD hlenD m=>?_⟩)))
 refine Rxl 5 q (Zq (aB p116 z116 q q) q (Bx q q q (Rlc 4 q (au (WLP.pre 2 (Rl 2 q (WL.nil_cell 7 20 58 6 q q (WL.nil ?_))))))))
 obtain⟨x,p,h⟩:=aa h
 rcases x with a|g
 dsimp only[Rs.cs] at h
 refine WLP.wing [7,0,1,2,3,8] q q q q (f45_c p) Lw q dC (Re (Re (Rg (Rf (Ro (Ro q)))))) ⟨q,q,q,q,q,q,Zt⟩ Kv q (Zw q) q q (λr' new hS=>?_) (λc new hS=>?_)
 obtain⟨z9,i3_85,i4_85,i5_85,hz,rfl,rfl⟩:=hS
 obtain rfl:=Rs.ok.inj hz
 refine⟨_,_,q,(Re (Re (Rg (Rf (Ro (Ro q)))))),q,Kv,WLP.of ?_⟩
 refine St q (Zn (Rcc 1 q ?_))
 refine WC.freezeX [] [(7,20)] 8 _ q (bO fy _) Zt ⟨_,_,q,q,Zt⟩ ?_
 apply RT [_,_,_,_,_,_,_,_, .u, .u, .u] [8,9] [[.row 90 (mR mI mH mO mE 1 vo a.2.2.2.2.1 3 i4_85), .os 42 1 vo (bg 2 i3_85 (List.length a.2.2.2.2.2.1)), .fam 2 1 i3_85 (bc E2 a.2.2.2.2.2.1), .os 2 1 i4_85 (eM E2 a.2.2.2.2.2.2.1), .row 41 (rg a.1 a.2.1 a.2.2.1 a.2.2.2.1), .row 50 [sN], .row 47 [.n 0], .row 116 (([.pt 0 0]:lV)++(bf 16 (λj=> .n (a.1 j))++([.n a.2.1, .n a.2.2.1, .n a.2.2.2.1, .l E58 a.2.2.2.2.2.2.2]:lV):lV)), .z],[.row 90 (mR mI mH mO mE 1 vo a.2.2.2.2.1 3 i4_85), .os 42 1 vo (bg 2 i3_85 (List.length a.2.2.2.2.2.1)), .fam 2 1 i3_85 (bc E2 a.2.2.2.2.2.1), .os 2 1 i4_85 (eM E2 a.2.2.2.2.2.2.1), .row 41 (rg a.1 a.2.1 a.2.2.1 a.2.2.2.1), .row 50 [.l E58 a.2.2.2.2.2.2.2], .row 47 [.n 0], .row 116 (([.pt 0 0]:lV)++(bf 16 (λj=> .n (a.1 j))++([.n a.2.1, .n a.2.2.1, .n a.2.2.2.1, .l E58 a.2.2.2.2.2.2.2]:lV):lV)), .z]] [p01 11,p10 0,p10 1,p10 2,u01 11,u10 4,u10 5,u10 6,p11 3 8,q11 7 9 1,q01 10 2] kR kR q q
 refine Y4 ?_
 refine X2d ?_
 refine zo (λ_=>sS Z6 s41 Z2 (aY q q)) ?_
 refine zo (λ_=>sS Z6 s50 Z2 (aY q q)) ?_
 exact zo (λ_=>sS Z6 s47 Z2 (aY q q)) Zt
 refine Rxx 2 q ?_
 obtain rfl:=Oi h
 exact oq (new:=[.row 90 (mR mI mH mO mE 1 vo a.2.2.2.2.1 3 i4_85), .os 42 1 vo (bg 2 i3_85 (List.length a.2.2.2.2.2.1)), .fam 2 1 i3_85 (bc E2 a.2.2.2.2.2.1), .os 2 1 i4_85 (eM E2 a.2.2.2.2.2.2.1)]) (r0:= .d (.tu [.ag (R41 (bj.mk a.1 a.2.1 a.2.2.1 a.2.2.2.1)), .sl (List.map E58 a.2.2.2.2.2.2.2), .i .i64 0])) m (qK) (rs3 q (cz q q a41 s41 q) (fb q q a50 q) (fb q q a47 q)) (bd ⟨(aw (Zs _)),Zl,Zl,Zt⟩) q ⟨Zp,Zf,Zf,Zf,Zt⟩ ⟨i3_85,i4_85,q,q⟩
 obtain⟨z9,hz,_⟩:=hS
 cases hz
 dsimp only[Rs.cs] at h
 refine WLP.wing [7,0,1,2,3,8] q q q q (f45_c p) Lw q dC (Re (Re (Rg (Rf (Ro (Ro q)))))) ⟨q,q,q,q,q,q,Zt⟩ Kv q (Zw q) q q (λr' new hS=>?_) (λc new hS=>?_)
 obtain⟨z9,i3_85,i4_85,i5_85,hz,_⟩:=hS
 cases hz
 obtain⟨z9,hz,rfl,rfl⟩:=hS
 obtain rfl:=Rs.bad.inj hz
 refine⟨_,(Re (Re (Rg (Rf (Ro (Re q)))))),Kv,?_⟩
 refine cv (st':=[.row 90 (mR mI mH mO mE 1 vo mN 3 vu),oS vo 2 vf mS,fS vf mS,uS vu mU, .row 41 n19, .row 50 [sN], .row 47 [.n 0], .z, .z]) q (aU ?_)
 obtain rfl:=Oi h
 exact ot (new:=(wM mI mH mO mE vo mN vu vf mS mU)) (r0:= .d (.tu [.ag (R41 (bj.mk (λj=>0) 0 0 0)), .sl (List.map E58 []), .i .i64 g])) m (s8 [4,5,6] (qL (e:=g)) Lw q dC q ⟨q,q,q,Zt⟩ q q q q q (st':=[.row 90 (mR mI mH mO mE 1 vo mN 3 vu),oS vo 2 vf mS,fS vf mS,uS vu mU, .row 41 n19, .row 50 [sN], .row 47 [.n g], .z, .z]) q) q (rs3 q (cz q q a41 s41 q) (fb q q a50 q) (fb q q a47 q)) (bd ⟨(aw (Zs _)),Le.nil,Zl,Zt⟩) q ⟨Zp,Zf,Zf,Zf,Zt⟩ ⟨vf,vu,q,q⟩

theorem f11_c{mI:lN}{mH:lH}{mO:lO}{mE:Int}{mN:lI}{mS:lL}{mU:lI}{r1:bj}{vo:Nat}{vf:Nat}{vu:Nat}{r:bj×lA×Int×lI×lL×lI}(h:f11 mI mH mO mE mN mS mU r1=some r):Ctr prog 11 [.pt 0 0, .d (.ag (R41 r1))] (wM mI mH mO mE vo mN vu vf mS mU) (cX 4 (λr' new=>∃i2 i3:Nat,r'= .d (.tu [.ag (R41 r.1), .sl (List.map E58 r.2.1), .i .i64 r.2.2.1])∧new=[.row 90 (mR mI mH mO mE 1 vo r.2.2.2.1 3 i3), .os 42 1 vo (bg 2 i2 (List.length r.2.2.2.2.1)), .fam 2 1 i2 (bc E2 r.2.2.2.2.1), .os 2 1 i3 (eM E2 r.2.2.2.2.2)])):=by
 unfold f11 at h
 refine cI func11 λ_ _ _ hmm=>?_
 refine Rcl 2 q (Bd q q (Zs _) q (Al z41 q (Rll 8 q ?_)))
 obtain⟨a,e,h⟩:=aa h
 refine WL.wing [0,1,2,3] q q q q (f44_45_c e) Lw q dC (Re (Rg (Rf (Ro q)))) ⟨q,q,q,q,Zt⟩ Kv q (Zw q) q q (λr' new hS=>?_)
 obtain⟨i2_17,i3_17,rfl,rfl⟩:=hS
 refine⟨_,_,q,(Re (Rg (Rf (Ro q)))),q,Kv,?_⟩
 refine St q (Rl 3 q (sS Z6 s41 Z2 (St q (Rlx 5 q ?_))))
 obtain rfl:=Oi h
 exact az (new:=[.row 90 (mR mI mH mO mE 1 vo a.2.2.2.1 3 i3_17), .os 42 1 vo (bg 2 i2_17 (List.length a.2.2.2.2.1)), .fam 2 1 i2_17 (bc E2 a.2.2.2.2.1), .os 2 1 i3_17 (eM E2 a.2.2.2.2.2)]) (r0:= .d (.tu [.ag (R41 a.1), .sl (List.map E58 a.2.1), .i .i64 a.2.2.1])) (rs3 q (cz q q a41 s41 q) (ap q) (ap q)) (bd ⟨(aw (Zs _)),Zl,Zl,Zt⟩) q ⟨Zp,Zf,Zf,Zf,Zt⟩ ⟨i2_17,i3_17,q,q⟩

theorem f38_c{s0:lN}{r:lN}(h:f38 s0=some r):Pu prog 38 [.sl (List.map E45 s0)] (.sl (List.map E45 r)):=by
 unfold f38 at h
 replace h:=av h
 obtain⟨hg,h⟩:=h
 obtain rfl:=Oi h
 refine fI func38 λ_ _=>?_
 refine Rcl 9 q (gf false q underlying23 q Zl (Zw q) q λb hb=>?_)
 refine Rlc 2 q (d4 q (λhc=>?_) λhc=>?_)
 have a:=hb (by cases b<;>first|rfl|cases hc)
 exact Rcx 7 q (aS (rs1 q (ap q)) (by rw[a];exact Le.nil))
 exact Rcl 4 q (WL.s ((dR l23).does) (Zw q) q q (Rl 1 q (WL.s ((eu ([]:lN) s0 dE l23 z45 q dC q q q (dm Zl dE λ_=>q) (λ_=>q) hg).does) (Zw q) q q (Rlx 4 q (aS (rs1 q (ap q)) Zl)))))

theorem f39_c{s0:lH}{r:lH}(h:f39 s0=some r):Pu prog 39 [.sl (List.map cJ s0)] (.sl (List.map cJ r)):=by
 unfold f39 at h
 replace h:=av h
 obtain⟨hg,h⟩:=h
 obtain rfl:=Oi h
 refine fI func39 λ_ _=>?_
 refine Rcl 9 q (gf false q underlying29 q Zl (Zw q) q λb hb=>?_)
 refine Rlc 2 q (d4 q (λhc=>?_) λhc=>?_)
 have a:=hb (by cases b<;>first|rfl|cases hc)
 exact Rcx 7 q (aS (rs1 q (ap q)) (by rw[a];exact Le.nil))
 exact Rcl 4 q (WL.s ((dR l29).does) (Zw q) q q (Rl 1 q (WL.s ((eu ([]:lH) s0 d7 l29 pJ q dC q q q (dm Zl d7 λ_=>q) (λ_=>q) hg).does) (Zw q) q q (Rlx 4 q (aS (rs1 q (ap q)) Zl)))))

theorem f43_c{s0:lI}{r:lI}(h:f43 s0=some r):Pu prog 43 [.sl (List.map E3 s0)] (.sl (List.map E3 r)):=by
 unfold f43 at h
 replace h:=av h
 obtain⟨hg,h⟩:=h
 obtain rfl:=Oi h
 refine fI func43 λ_ _=>?_
 refine Rcl 9 q (gf false q underlying96 q Zl (Zw q) q λb hb=>?_)
 refine Rlc 2 q (d4 q (λhc=>?_) λhc=>?_)
 have a:=hb (by cases b<;>first|rfl|cases hc)
 exact Rcx 7 q (aS (rs1 q (ap q)) (by rw[a];exact Le.nil))
 exact Rcl 4 q (WL.s ((dR l96).does) (Zw q) q q (Rl 1 q (WL.s ((eu ([]:lI) s0 iy l96 z3 q dC q q q (dm Zl iy λ_=>q) (λ_=>q) hg).does) (Zw q) q q (Rlx 4 q (aS (rs1 q (ap q)) Zl)))))

theorem f12_c{t0:ao}{r:Bool}(h:f12 t0=some r):Pu prog 12 [.ag (R38 t0)] (.b r):=by
 unfold f12 at h
 refine fI func12 λ_ _=>?_
 refine Rcl 2 q (Bd q q (Zs _) q (Rlc 8 q (Jn1 (λa=> [(1, .d (.pc (R38 t0))),(3, .n a)]) (λ_=> []) h (λg h=>?_) λa h=>?_)))
 refine Rcc 6 q (Ln2 (λe f=> [(1, .d (.pc (R38 t0))),(3, .n e),(4, .n f)]) (λ_ _=> []) (f12_l1 t0 g) h (λ_ _ h=>by rw[f12_l1] at h;cases h) λn e f h=>?_)
 rw[f12_l1] at h
 refine Rcl 6 q (Zq (ab cL t0.objs e33 q q Zl) q (Rl 2 q ?_))
 refine AG 3 10 13 3 3 ?_
 refine Rlc 2 q (Ci h q (λh=>?_) λh=>?_)
 exact Rcl 9 q (Ix h e33 cg q Zl q q λj _ h=>(Rl 2 q (Zq (qr q q q) q (Zq (oU q q q) q (Rlx 10 q (Fn2 h))))))
 exact Rcx 4 q (En1 h)
 refine Rcl 5 q ?_
 apply WL.or 5 (t:=28) (d:=33)
 exact q
 intro k
 exact Rl 2 q (Zy (ab E45 t0.insns e23 q q Zl) q q q (Rl 2 q (WL.nil ⟨q,[_,_,_,_,_],q,q,q⟩)))
 exact Rn 5 5
 refine Rl 1 q ?_
 apply WL.or 5 (t:=34) (d:=39)
 exact q
 intro m
 exact Rl 2 q (Zy (ab cJ t0.handlers e29 q q Zl) q q q (Rl 2 q (WL.nil ⟨q,[_,_,_,_,_],q,q,q⟩)))
 exact Rn 5 5
 refine Rl 1 q ?_
 apply WL.or 5 (t:=40) (d:=45)
 exact q
 intro p
 exact Rl 2 q (Zy (ab iV t0.loops e30 q q Zl) q q q (Rl 2 q (WL.nil ⟨q,[_,_,_,_,_],q,q,q⟩)))
 exact Rn 5 5
 refine Rl 1 q ?_
 apply WL.or 5 (t:=46) (d:=51)
 exact q
 intro w
 exact Rl 2 q (Zy (ab iz t0.selects e31 q q Zl) q q q (Rl 2 q (WL.nil ⟨q,[_,_,_,_,_],q,q,q⟩)))
 exact Rn 5 5
 refine Rl 1 q ?_
 apply WL.or 5 (t:=52) (d:=57)
 exact q
 intro x
 exact Rl 2 q (Zy (ab E96 t0.lists e32 q q Zl) q q q (Rl 2 q (WL.nil ⟨q,[_,_,_,_,_],q,q,q⟩)))
 exact Rn 5 5
 refine Rl 1 q ?_
 apply WL.or 5 (t:=58) (d:=63)
 exact q
 intro y
 exact Rl 2 q (Zy (ab cL t0.objs e33 q q Zl) q q q (Rl 2 q (WL.nil ⟨q,[_,_,_,_,_],q,q,q⟩)))
 exact Rn 5 5
 refine Rl 1 q ?_
 apply WL.or 5 (t:=64) (d:=69)
 exact q
 intro A
 exact Rl 2 q (Zy (ab gV t0.inits e34 q q Zl) q q q (Rl 2 q (WL.nil ⟨q,[_,_,_,_,_],q,q,q⟩)))
 exact Rn 5 5
 refine Rl 1 q ?_
 apply WL.or 5 (t:=70) (d:=75)
 exact q
 intro B
 exact Rl 2 q (Zy (ab E27 t0.tasks e28 q q Zl) q q q (Rl 2 q (WL.nil ⟨q,[_,_,_,_,_],q,q,q⟩)))
 exact Rn 5 5
 refine Rl 1 q ?_
 apply WL.or 5 (t:=76) (d:=81)
 exact q
 intro C
 exact Rl 2 q (Zy (ab fJ t0.prots e35 q q Zl) q q q (Rl 2 q (WL.nil ⟨q,[_,_,_,_,_],q,q,q⟩)))
 exact Rn 5 5
 refine Rl 1 q ?_
 apply WL.or 5 (t:=82) (d:=87)
 exact q
 intro E
 exact Rl 2 q (Zy (ab jt t0.checks e36 q q Zl) q q q (Rl 2 q (WL.nil ⟨q,[_,_,_,_,_],q,q,q⟩)))
 exact Rn 5 5
 exact Rlx 4 q (FA h)

theorem f47z_c{r:Bool}(h:f47z=some r):Ctr prog 47 [.d (.v (.pointer none))] [] (cX 0 (λr' new=>r'= .d (.b r)∧new=[])):=by
 unfold f47z at h
 refine cI func47 λ_ _ _ hmm=>?_
 refine Rcl 8 q (Zq (oc underlying46 q) q (Rlx 12 q ?_))
 obtain rfl:=Oi h
 exact az (new:=[]) (r0:= .d (.b true)) (rs1 q (ap q)) Zl q Zt ⟨q,q⟩

theorem f44_45z_c{r1:bj}{a:Bool}{r:bj×lA×Int}(h:f44_45z r1 a=some r):Ctr prog 44 [.d (.v (.pointer none)), .d (.ag (R41 r1)), .d (D.b a), .fn (.func 45) [] []] [] (cX 0 (λr' new=>r'= .d (.tu [.ag (R41 r.1), .sl (List.map E58 r.2.1), .i .i64 r.2.2])∧new=[])):=by
 unfold f44_45z at h
 refine cI func44 λ_ _ _ hmm=>?_
 refine Rcl 2 q (Bd q q (Zs _) q (Al z41 q (Al z50 q (Al z47 q (Rll 7 q (WL.wing [] q q q q (f47z_c (r:=true) q) Lw q dC q Zt q q (Zw q) q q λr' new hS=>?_))))))
 obtain⟨rfl,rfl⟩:=hS
 refine⟨_,_,q,q,q,q,?_⟩
 refine St q (Rlc 3 q (bF q (Rcl 2 q (Zq (aB p41 z41 q q) q (sS Z6 s41 Z2 (St q (sS Z6 s50 Z2 (sS Z6 s47 Z2 (Rlx 5 q ?_)))))))))
 obtain rfl:=Oi h
 exact az (new:=[]) (r0:= .d (.tu [.ag (R41 (bj.mk (λj=>0) 0 0 0)), .sl (List.map E58 []), .i .i64 1])) (rs3 q (cz q q a41 s41 q) (fb q q a50 q) (fb q q a47 q)) (bd ⟨(aw (Zs _)),Le.nil,Zl,Zt⟩) q Zt ⟨q,q⟩

theorem f11z_c{r1:bj}{r:bj×lA×Int}(h:f11z r1=some r):Ctr prog 11 [.d (.v (.pointer none)), .d (.ag (R41 r1))] [] (cX 0 (λr' new=>r'= .d (.tu [.ag (R41 r.1), .sl (List.map E58 r.2.1), .i .i64 r.2.2])∧new=[])):=by
 unfold f11z at h
 refine cI func11 λ_ _ _ hmm=>?_
 refine Rcl 2 q (Bd q q (Zs _) q (Al z41 q (Rll 8 q ?_)))
 obtain⟨a,e,h⟩:=aa h
 refine WL.wing [] q q q q (f44_45z_c e) Lw q dC q Zt q q (Zw q) q q (λr' new hS=>?_)
 obtain⟨rfl,rfl⟩:=hS
 refine⟨_,_,q,q,q,q,?_⟩
 refine St q (Rl 3 q (sS Z6 s41 Z2 (St q (Rlx 5 q ?_))))
 obtain rfl:=Oi h
 exact az (new:=[]) (r0:= .d (.tu [.ag (R41 a.1), .sl (List.map E58 a.2.1), .i .i64 a.2.2])) (rs3 q (cz q q a41 s41 q) (ap q) (ap q)) (bd ⟨(aw (Zs _)),Zl,Zl,Zt⟩) q Zt ⟨q,q⟩

theorem f42_c{s0:lI}{r:lI}(h:f42 s0=some r):Pu prog 42 [.sl (List.map E2 s0)] (.sl (List.map E2 r)):=by
 unfold f42 at h
 replace h:=av h
 obtain⟨hg,h⟩:=h
 obtain rfl:=Oi h
 refine fI func42 λ_ _=>?_
 refine Rcl 9 q (gf false q underlying42 q Zl (Zw q) q λb hb=>?_)
 refine Rlc 2 q (d4 q (λhc=>?_) λhc=>?_)
 have a:=hb (by cases b<;>first|rfl|cases hc)
 exact Rcx 7 q (aS (rs1 q (ap q)) (by rw[a];exact Le.nil))
 exact Rcl 4 q (WL.s ((dR l42).does) (Zw q) q q (Rl 1 q (WL.s ((eu ([]:lI) s0 fH l42 z2 q dC q q q (dm Zl fH λ_=>q) (λ_=>q) hg).does) (Zw q) q q (Rlx 4 q (aS (rs1 q (ap q)) Zl)))))

theorem f42m_c{s0:lL}{j0:Int}{v0:Nat}{r:lI}(h:f42m s0 j0=some r):Ctr prog 42 [.osf 0 (Int.toNat j0) v0] [fS v0 s0] (cX 1 (λr' new=>r'= .l E2 r∧new=[fS v0 s0])):=by
 unfold f42m at h
 obtain⟨M,hM,h⟩:=aa h
 replace h:=av h
 obtain⟨hg,h⟩:=h
 obtain rfl:=Oi h
 refine cI func42 λ_ _ _ hmm=>?_
 refine Rcl 9 q (qk underlying42 q q (bB hM) (Zw q) q λb hb=>?_)
 refine Rlc 2 q (d4 q (λhc=>?_) λhc=>?_)
 have a:=hb hc
 exact Rcx 7 q (az (new:=[fS v0 s0]) (r0:= .l E2 M) (rs1 q (ap q)) (by rw[a];exact Le.nil) q ⟨Zf,Zt⟩ ⟨q,q⟩)
 exact Rcl 4 q (WL.s ((dR l42).does) (Zw q) q q (Rl 1 q (WL.s ((eu ([]:lI) M fH l42 z2 q dC q q q (Src.mem q (bB hM)) (λ_=>q) hg).does) (Zw q) q q (Rlx 4 q (az (new:=[fS v0 s0]) (r0:= .l E2 M) (rs1 q (ap q)) Zl q ⟨Zf,Zt⟩ ⟨q,q⟩)))))

theorem f28_c{mI:lN}{mH:lH}{mO:lO}{mE:Int}{mN:lI}{mS:lL}{mU:lI}{vo:Nat}{vf:Nat}{vu:Nat}{r:lL}(h:f28 mI mH mO mE mN mS mU=some r):Ctr prog 28 [.pt 0 0] (wM mI mH mO mE vo mN vu vf mS mU) (cX 4 (λr' new=>r'= .l E42 r∧new=(wM mI mH mO mE vo mN vu vf mS mU))):=by
 unfold f28 at h
 refine cI func28 λ_ _ _ hmm=>?_
 refine Rcl 9 q ?_
 obtain⟨y,m,h⟩:=aa h
 refine WL.wing [0,1,2,3] q q q q (f47_c m) Lw q dC (Re (Rg (Rf (Ro q)))) ⟨q,q,q,q,Zt⟩ Kv q (Zw q) q q (λr' new hS=>?_)
 obtain⟨rfl,rfl⟩:=hS
 refine⟨_,_,q,(Re (Rg (Rf (Ro q)))),q,Kv,?_⟩
 refine St q (Rlc 2 q (Ci h q (λh=>?_) λh=>?_))
 refine Rcx 7 q ?_
 obtain rfl:=Oi h
 exact az (new:=(wM mI mH mO mE vo mN vu vf mS mU)) (r0:= .l E42 []) (rs1 q (ap q)) Le.nil q ⟨Zp,Zf,Zf,Zf,Zt⟩ ⟨q,q⟩
 refine Rcl 8 q (Zq (gh e62 q q q) q ?_)
 replace h:=av h
 obtain⟨p,h⟩:=h
 refine WL.s ((NewOs.b (NewOs.weak (eF l62 z42 q (Nat.succ_pos _) q q p) (by exact ia (R:=E42) (z:=([]:lI)) (show Les [sN] [AV.d (.sl [])] from⟨Le.nil,Zt⟩) _))).does) (Zw q) q q (Rlc 3 q (Jn1 (λ_=> [(3, .os 4 0)]) (λe=> [.row 90 (mR mI mH mO mE 1 vo mN 3 vu),oS vo 2 vf mS,fS vf mS,uS vu mU, .os 42 1 0 (eM E42 e)]) h (λt h=>?_) λe h=>?_))
 refine Rcl 6 q (Zq (gh e62 q q q) q (Rlc 4 q (Ln2 (λa _=> [(3, .os 4 0),(17, .os 1 vo),(18, .n (List.length mS:Int)),(19, .n a)]) (λ_ g=> [.row 90 (mR mI mH mO mE 1 vo mN 3 vu),oS vo 2 vf mS,fS vf mS,uS vu mU, .os 42 1 0 (eM E42 g)]) (f28_l1 mS t) h (λ_ _ h=>by rw[f28_l1] at h;cases h) λn a g h=>?_)))
 rw[f28_l1] at h
 refine Rcc 6 q (Ci h q (λh=>?_) λh=>?_)
 refine Rcl 7 q ?_
 obtain⟨A,f,h⟩:=aa h
 refine Zq (dn e62 q q q (ae f) (dw f)) q (Zq (ef (i:=a) q q a42 (bQ f)) q (Rll 8 q ?_))
 obtain⟨w,x,h⟩:=aa h
 refine WL.wing [2] q q q q (f42m_c x) Lw q dC (Rf q) ⟨q,Zt⟩ Kv q (Zw q) q q (λr' new hS=>?_)
 obtain⟨rfl,rfl⟩:=hS
 refine⟨_,_,q,(Rf q),q,Kv,?_⟩
 refine St q ?_
 obtain⟨B,j,h⟩:=aa h
 exact Zq (n6 e62 q q q j) q (WL.s0 (dl (R:=E42) (k:=1) (i:=a) (fo:=0) w q q q q Zl q q q s42 q (λ_=>q) j q q) (Zw q) q (Rlx 7 q (Fn2 h)))
 exact Rcx 4 q (En1 h)
 refine Rcx 7 q ?_
 refine WE.freezeX [3,30,2] [] 4 _ q (bO eP _) ⟨q,q,q,Zt⟩ Zt ?_
 obtain rfl:=Oi h
 exact az (new:=(wM mI mH mO mE vo mN vu vf mS mU)) (r0:= .l E42 e) (rs1 q (ap q)) Zl q ⟨Zp,Zf,Zf,Zf,Zt⟩ ⟨q,q⟩

theorem f41_c{t0:ao}{vo:Nat}{vf:Nat}{r:lL}(h:f41 t0=some r):Ctr prog 41 [.d (.ag (R38 t0))] [.rsv, .rsv] (cX 2 (λr' new=>r'= .os 0 vo∧new=[oS vo 1 vf r,fS vf r])):=by
 unfold f41 at h
 refine cI func41 λ_ _ _ hmm=>?_
 refine Rcl 2 q (Bd q q (Zs _) q (Rll 7 q ?_))
 obtain⟨a7,Y,h⟩:=aa h
 refine wF Z4 (f37_c Y) Lw Z3 (Rlc 3 q (Ci h q (λh=>?_) λh=>?_))
 refine Rcx 7 q ?_
 cases h
 refine Rcl 6 q (Zq (ab cL t0.objs e33 q q Zl) q ?_)
 replace h:=av h
 obtain⟨Z,h⟩:=h
 refine WL.s ((NewOs.b (eF l62 z42 q (Nat.succ_pos _) q q Z)).does) (Zw q) q q (eY (oK E2 2 2 1 q) (Rlc 3 q ?_))
 replace h:=ah h
 obtain⟨T,ad,h⟩:=h
 refine cH (λenv' st'=>∃(G:lL),∃(Q:Nat),T G=some r∧Sub [(1, .d (.pc (R38 t0))),(3, .os 2 0)] env'∧SLe st' [.rsv, .rsv,oS 0 3 Q G,fS Q G]) ?_ ?_
 refine Rcl 4 q (Zq (ab cL t0.objs e33 q q Zl) q (Rlc 4 q (db (λn env' st'=>∃(e:Int),∃(g:lL),∃(A:Nat),f41_l1 t0 T n e g=some r∧Sub [(1, .d (.pc (R38 t0))),(3, .os 2 0),(17, .l cL t0.objs),(18, .n (List.length t0.objs:Int)),(19, .n e)] env'∧SLe st' [.rsv, .rsv,oS 0 3 A g,fS A g]) (λn=>n) (Int.toNat ((List.length t0.objs:Int) - 0)+1) ⟨0,(List.replicate (Int.toNat (List.length t0.objs:Int)) ([]:lI)),_,h,(Sx q (Sx q (Sx q (Sx q (Sx q (Sub.nil _)))))),⟨Zt,Zt,Zf,Zf,Zt⟩⟩ ?_)))
 rintro n H st1 ⟨e,g,A,h,hsub,hst⟩
 rcases n with _|n
 rw[f41_l1] at h;cases h
 rw[f41_l1] at h
 refine WC.sub hsub (WC.weak hst ?_)
 refine Rcc 6 q (Ci h q (λh=>?_) λh=>?_)
 refine Rcc 2 q ?_
 replace h:=ah h
 obtain⟨U,ax,h⟩:=h
 refine cH (λenv' st'=>∃(K:lL),∃(S:Nat),U K=some r∧Sub [(1, .d (.pc (R38 t0))),(3, .os 2 0),(17, .l cL t0.objs),(18, .n (List.length t0.objs:Int)),(19, .n e)] env'∧SLe st' [.rsv, .rsv,oS 0 3 S K,fS S K]) ?_ ?_
 refine Rcl 4 q (Ix h e33 cg q Zl q q λa _ h=>(Rl 1 q (Al lw q (Rl 1 q (sS Z6 mY Z2 (Rll 8 q ?_))))))
 replace h:=av h
 obtain⟨a0,h⟩:=h
 refine WL.s ((NewOs.b (NewOs.cast (eF l42 z2 q (Nat.succ_pos _) q q a0) (by exact fO (R:=E2) (z:=(0:Int)) q))).does) (Zw q) q q ?_
 obtain⟨a8,M,h⟩:=aa h
 refine Zq (dn e62 q q q (ae M) (dw M)) q (WL.s0 (nG (i:=e) (n:=List.length g) q q q q s42 (bQ M)) (Zw q) q (eY (j8 (L:=g) (_x:=[]) (x':=(List.replicate (Int.toNat a.size) (0:Int))) (j:=Int.toNat e) 2 3 5 (List.set g (Int.toNat e) (List.replicate (Int.toNat a.size) (0:Int))) q q q q q (bQ M) q) (Rll 5 q ?_)))
 obtain⟨a9,a1,h⟩:=aa h
 refine wF Z4 (f79_c a1) ⟨(aw (Zs _)),Zl,Zt⟩ Z3 (Rlc 3 q (Ci h q (λh=>?_) λh=>?_))
 refine Rcl 4 q ?_
 obtain⟨t,F,h⟩:=aa h
 refine Zq (dn e62 q q q (ae F) (dw F)) q (eY (fY (L:=(List.set g (Int.toNat e) (List.replicate (Int.toNat a.size) (0:Int)))) (x:=t) (i:=e) 2 3 q q q F) (Zq (gM (i:=e) q q a42 (bQ F)) q (Zq (iY (aF E2) t e42 q q q) q (Rlx 2 q (pC (fZ (L0:=(List.set g (Int.toNat e) (List.replicate (Int.toNat a.size) (0:Int)))) (x':=t) 2 3 6 q q q q q (bQ F)) ?_)))))
 refine cv (st':=[.rsv, .rsv, .os 42 1 0 (bg 3 (((A+1)+1)+1) (List.length (List.set g (Int.toNat e) (List.replicate (Int.toNat a.size) (0:Int))))), .fam 2 1 (((A+1)+1)+1) (bc E2 (List.set g (Int.toNat e) (List.replicate (Int.toNat a.size) (0:Int)))), .row 101 [.n a.size, .n a.lo, .n a.hi, .d (D.b a.ptr), .l E3 a.set_], .z, .z]) (by show([.rsv, .rsv, .os 42 1 0 (bg 3 (((A+1)+1)+1) (List.length (List.set (List.set g (Int.toNat e) (List.replicate (Int.toNat a.size) (0:Int))) (Int.toNat e) t))), .fam 2 1 (((A+1)+1)+1) (bc E2 (List.set (List.set g (Int.toNat e) (List.replicate (Int.toNat a.size) (0:Int))) (Int.toNat e) t)), .row 101 [.n a.size, .n a.lo, .n a.hi, .d (D.b a.ptr), .l E3 a.set_], .z, .z]:lW)=_;rw[lR F]) (Rxc 2 q ?_)
 refine db (λna env' st'=>∃(B:Int),∃(m:lL),∃(C:Nat),f41_l2 e U a t na B m=some r∧Sub [(1, .d (.pc (R38 t0))),(3, .os 2 0),(4, .n e),(5, .pt 4 0),(17, .l cL t0.objs),(18, .n (List.length t0.objs:Int)),(19, .n e),(37, .n (List.length t:Int)),(38, .n B)] env'∧SLe st' [.rsv, .rsv,oS 0 3 C m,fS C m, .row 101 [.n a.size, .n a.lo, .n a.hi, .d (D.b a.ptr), .l E3 a.set_], .z, .z]) (λn=>n) (Int.toNat ((List.length t:Int) - 0)+1) ⟨0,(List.set g (Int.toNat e) (List.replicate (Int.toNat a.size) (0:Int))),_,h,(Sx q (Sx q (Sx q (Sx q (Sx q (Sx q (Sx q (Sx q (Sx q (Sub.nil _)))))))))),⟨Zt,Zt,Zf,Zf,Zp,Zt,Zt,Zt⟩⟩ ?_
 rintro na H st1 ⟨B,m,C,h,hsub,hst⟩
 rcases na with _|na
 rw[f41_l2] at h;cases h
 rw[f41_l2] at h
 refine WC.sub hsub (WC.weak hst ?_)
 refine Rcc 6 q (Ci h q (λh=>?_) λh=>?_)
 refine Rcc 10 q ?_
 obtain⟨N,I,h⟩:=aa h
 obtain⟨a',V,h⟩:=aa h
 apply RT [_,_,_,_,_,_,_,_, .u] [3,8] [[.rsv, .rsv, .os 42 1 0 (List.set (bg 3 (C+1) (List.length m)) (Int.toNat e) [.os 7 0]), .fam 2 1 (C+1) (bc E2 (List.set m (Int.toNat e) [])), .row 101 [.n a.size, .n a.lo, .n a.hi, .d (D.b a.ptr), .l E3 a.set_], .z, .z,uS 0 N],[.rsv, .rsv, .os 42 1 0 (List.set (bg 3 (C+1) (List.length m)) (Int.toNat e) [.os 7 0]), .fam 2 1 (C+1) (bc E2 (List.set m (Int.toNat e) [])), .row 101 [.n a.size, .n a.lo, .n a.hi, .d (D.b a.ptr), .l E3 a.set_], .z, .z, .os 2 1 0 (eM E2 (List.set N (Int.toNat B) a.lo))]] [p01 3,p01 4,p20 0 1,p10 2,u01 6,u01 5,u10 5,q20 3 4 1,q20 7 6 1] kR kR q q
 refine Y2 ?_
 refine zo (λ_=>Zq (dn e62 q q q (ae I) (dw I)) q (Zd q q q)) ?_
 refine zo (λ_=>eY (fY (L:=m) (x:=N) (i:=e) 2 3 q q q I) (Zq (gM (i:=e) q q a42 (bQ I)) q (Zd q q q))) ?_
 refine X2c ?_
 refine zo (λ_=>Zq (n6 e42 q q q V) q (Zd q q q)) ?_
 exact zo (λ_=>WL.s0 (dl (R:=E2) (k:=1) (i:=B) (fo:=0) a.lo q q q q Zl q q q s2 q (λ_=>q) V q q) (Zw q) q (aY q q)) Zt
 exact pC (fZ (L0:=m) (x':=(List.set N (Int.toNat B) a.lo)) 2 3 7 q q q q q (bQ I)) (Rxx 6 q (WE.drop 7 (env':=[(1, .d (.pc (R38 t0))),(3, .os 2 0),(4, .n e),(5, .pt 4 0),(17, .l cL t0.objs),(18, .n (List.length t0.objs:Int)),(19, .n e),(37, .n (List.length t:Int)),(38, .n (IntKind.i64.wrap (B+1)))]) Sb q Kv (Nat.le_trans (Nat.le_of_eq hmm) (nbT q)) (Fn3 h)))
 exact Rcx 5 q (WE.drop 4 (env':=[(1, .d (.pc (R38 t0))),(3, .os 2 0),(17, .l cL t0.objs),(18, .n (List.length t0.objs:Int)),(19, .n e)]) Sb q Kv (Nat.le_trans (Nat.le_of_eq hmm) (nbT q)) (En2 h))
 exact Rcx 2 q (WE.drop 4 (env':=[(1, .d (.pc (R38 t0))),(3, .os 2 0),(17, .l cL t0.objs),(18, .n (List.length t0.objs:Int)),(19, .n e)]) Sb q Kv (Nat.le_trans (Nat.le_of_eq hmm) (nbT q)) (En2 h))
 rintro H st1 ⟨K,S,h,hsub,hst⟩
 subst ax
 dsimp only at h
 refine WC.sub hsub (WC.weak hst ?_)
 exact Rcx 4 q (Fn3 h)
 exact Rcx 4 q (En2 h)
 rintro H st1 ⟨G,Q,h,hsub,hst⟩
 subst ad
 dsimp only at h
 refine WC.sub hsub (WC.weak hst ?_)
 replace h:=ah h
 obtain⟨W,a6,h⟩:=h
 refine cH (λenv' st'=>∃(w:lL),∃(y:Nat),W w=some r∧Sub [(3, .os 2 0)] env'∧SLe st' [.rsv, .rsv,oS 0 3 y w,fS y w]) ?_ ?_
 refine Rcl 4 q (Zq (ab gV t0.inits e34 q q Zl) q (Rlc 4 q (db (λn env' st'=>∃(O:Int),∃(p:lL),∃(E:Nat),f41_l3 t0 W n O p=some r∧Sub [(3, .os 2 0),(52, .l gV t0.inits),(53, .n (List.length t0.inits:Int)),(54, .n O)] env'∧SLe st' [.rsv, .rsv,oS 0 3 E p,fS E p]) (λn=>n) (Int.toNat ((List.length t0.inits:Int) - 0)+1) ⟨0,G,_,h,(Sx q (Sx q (Sx q (Sx q (Sub.nil _))))),⟨Zt,Zt,Zf,Zf,Zt⟩⟩ ?_)))
 rintro n H st1 ⟨O,p,E,h,hsub,hst⟩
 rcases n with _|n
 rw[f41_l3] at h;cases h
 rw[f41_l3] at h
 refine WC.sub hsub (WC.weak hst ?_)
 refine Rcc 6 q (Ci h q (λh=>?_) λh=>?_)
 refine Rcl 6 q (Ix h e34 pI q Zl q q λf _ h=>(Rl 1 q (Al z140 q (sS Z6 s140 Z2 (Rlc 2 q ?_)))))
 obtain⟨P,J,h⟩:=aa h
 obtain⟨bb,X,h⟩:=aa h
 apply RT [_,_,_,_,_,_,_,_,_,_, .u] [4,10] [[.rsv, .rsv, .os 42 1 0 (List.set (bg 3 (E+1) (List.length p)) (Int.toNat f.o) [.os 5 0]), .fam 2 1 (E+1) (bc E2 (List.set p (Int.toNat f.o) [])), .row 140 [.n f.o, .n f.slot, .n f.v],uS 0 P],[.rsv, .rsv, .os 42 1 0 (List.set (bg 3 (E+1) (List.length p)) (Int.toNat f.o) [.os 5 0]), .fam 2 1 (E+1) (bc E2 (List.set p (Int.toNat f.o) [])), .row 140 [.n f.o, .n f.slot, .n f.v], .os 2 1 0 (eM E2 (List.set P (Int.toNat f.slot) f.v))]] [p01 3,p01 8,p10 1,p20 0 2,p10 3,u01 8,u10 5,u01 8,u10 7,q20 4 6 1,q20 9 8 1] kR kR q q
 refine Y3 ?_
 refine zo (λ_=>Zq (dn e62 q q q (ae J) (dw J)) q (Zd q q q)) ?_
 refine zo (λ_=>eY (fY (L:=p) (x:=P) (i:=f.o) 2 3 q q q J) (Zq (gM (i:=f.o) q q a42 (bQ J)) q (Zd q q q))) ?_
 refine X2d ?_
 refine zo (λ_=>Zq (n6 e42 q q q X) q (Zd q q q)) ?_
 exact zo (λ_=>WL.s0 (dl (R:=E2) (k:=1) (i:=f.slot) (fo:=0) f.v q q q q Zl q q q s2 q (λ_=>q) X q q) (Zw q) q (aY q q)) Zt
 exact pC (fZ (L0:=p) (x':=(List.set P (Int.toNat f.slot) f.v)) 2 3 5 q q q q q (bQ J)) (Rxx 6 q (WE.drop 4 (env':=[(3, .os 2 0),(52, .l gV t0.inits),(53, .n (List.length t0.inits:Int)),(54, .n (IntKind.i64.wrap (O+1)))]) Sb q Kv (Nat.le_trans (Nat.le_of_eq hmm) (nbT q)) (Fn3 h)))
 exact Rcx 4 q (En2 h)
 rintro H st1 ⟨w,y,h,hsub,hst⟩
 subst a6
 dsimp only at h
 refine WC.sub hsub (WC.weak hst ?_)
 refine Rcx 7 q ?_
 obtain rfl:=Oi h
 exact eC (st1:=[.rsv, .rsv,oS 0 3 y w,fS y w]) [2,3] (.os 0 0) [oS 0 1 y w,fS y w] (λi=>List.getD [0,y] i 0) (λi=>List.getD [vo,vf] i 0) (rs1 q (ap q)) q Zl ⟨OLe.refl _,OLe.refl _,OLe.refl _,OLe.refl _,Zt⟩ dC (Rg (Rf q)) ⟨q,q,Zt⟩ Kv q hmm q q ⟨q,q,Zt⟩ q (dB (qS _ _ _ _ _ _ _ _ q) (dB (qT _ _ _ _ _ _ _ _) q)) (by simp[AV.rv,AV.rvs]) ⟨q,q⟩

theorem f40n_c{s0:lO}{v0:Nat}{r:lO}(h:f40n s0=some r):Ctr prog 40 [.l cL s0] [.rsv] (cX 1 (λr' new=>r'= .os 0 v0∧new=[.os 101 5 v0 (eM dV r)])):=by
 unfold f40n at h
 replace h:=av h
 obtain⟨hg,h⟩:=h
 obtain rfl:=Oi h
 refine cI func40 λ_ _ _ hmm=>?_
 refine Rcl 9 q (gf false q underlying33 q Zl (Zw q) q λb hb=>?_)
 refine Rlc 2 q (d4 q (λhc=>?_) λhc=>?_)
 have a:=hb (by cases b<;>first|rfl|cases hc)
 have d:s0=[]:=by cases s0<;>first|rfl|cases a
 subst d
 exact Rcx 7 q (pC (qa 2 101 5 q) (eC (st1:=[.rsv, .os 101 5 0 (eM dV ([]:lO))]) [1] (.os 0 0) [.os 101 5 0 (eM dV ([]:lO))] (λi=>List.getD [0] i 0) (λi=>List.getD [v0] i 0) (rs1 q (ap q)) q Zl ⟨OLe.refl _,OLe.refl _,Zt⟩ dC (Ro q) ⟨q,Zt⟩ Kv q hmm q q ⟨q,Zt⟩ q (dB (oY _ _ _ _ _ _ _ _) q) (by simp[AV.rv]) ⟨q,q⟩))
 exact Rcl 4 q (WL.s (((nk l33).b).does) (Zw q) q q (Rl 1 q (WL.s (bR dV ([]:lO) s0 l33 lw q dC q q q q (dm Zl cg λ_=>q) (λ_=>q) (λ_=>q) hg) (Zw q) q q (Rlx 4 q (eC (st1:=[.rsv, .os 101 5 (0+1) (eM dV (([]:lO)++s0))]) [1] (.os 0 (0+1)) [.os 101 5 (0+1) (eM dV (([]:lO)++s0))] (λi=>List.getD [(0+1)] i 0) (λi=>List.getD [v0] i 0) (rs1 q (ap q)) q Zl ⟨OLe.refl _,OLe.refl _,Zt⟩ dC (Ro q) ⟨q,Zt⟩ Kv q hmm q q ⟨q,Zt⟩ q (dB (oY _ _ _ _ _ _ _ _) q) (by simp[AV.rv]) ⟨q,q⟩)))))

theorem f10_c{t0:ao}{x:lI}{vo:Nat}{vf:Nat}{vu:Nat}{r:Int×lN×lH×lO×Int×lI×lL×lI}(h:f10 t0 x=some r):Ctr prog 10 [.d (.ag (R38 t0)), .l E2 x] [.rsv, .rsv, .rsv, .rsv] (cX 4 (λr' new=>r'= .tu [.pt 0 0, .d (.i .i64 r.1)]∧new=[.row 90 (mR r.2.1 r.2.2.1 r.2.2.2.1 r.2.2.2.2.1 1 vo r.2.2.2.2.2.1 3 vu), .os 42 1 vo (bg 2 vf (List.length r.2.2.2.2.2.2.1)), .fam 2 1 vf (bc E2 r.2.2.2.2.2.2.1), .os 2 1 vu (eM E2 r.2.2.2.2.2.2.2)])):=by
 unfold f10 at h
 refine cI func10 λ_ _ _ hmm=>?_
 refine Rcl 2 q (Bd q q (Zs _) q (Rll 8 q ?_))
 obtain⟨L,C,h⟩:=aa h
 refine wF Z4 (f37_c C) Lw Z3 (Rlc 3 q (Ci h q (λh=>?_) λh=>?_))
 refine Rcx 8 q ?_
 cases h
 refine Rcc 3 q (rV ep (rV ep (rV ep ?_)))
 obtain⟨f,E,h⟩:=aa h
 obtain⟨g,F,h⟩:=aa h
 obtain⟨j,G,h⟩:=aa h
 obtain⟨a,H,h⟩:=aa h
 obtain⟨m,I,h⟩:=aa h
 apply RT [_,_,_,_,_,_,_,_,_,_,_,_,_,_,_,_,_,_] [8,12,16] [[.rsv, .rsv, .rsv, .rsv, .os 101 5 0 (eM dV j), .rsv, .rsv],[.rsv, .rsv, .rsv, .rsv, .os 101 5 0 (eM dV j),oS 0 6 0 a,fS 0 a],[.rsv, .rsv, .rsv, .rsv, .os 101 5 0 (eM dV j),oS 0 6 0 a,fS 0 a, .row 90 [.l E45 f, .l cJ g, .os 4 0, .n t0.excs, .os 5 0, .l E2 m,sN]]] [p01 2,p10 0,p10 1,p01 2,p10 3,p10 4,p01 2,p10 6,p10 7,([],[2],[0,1,2]),([9],[],[0,1,2]),u01 2,q10 11 1,([],[1],[0,1,2]),q10 13 2,([2,5,8,10,12,14],[],[2]),q10 15 2,q10 16 3] kR kR q q
 refine Y2 ?_
 refine zo (λ_=>wF Z4 (f38_c E) Lw Z3 (Zd q q q)) ?_
 refine Y2 ?_
 refine zo (λ_=>wF Z4 (f39_c F) Lw Z3 (Zd q q q)) ?_
 refine Y2 ?_
 refine zo (λ_=>?_) ?_
 refine WL.wing [4] q q q q (f40n_c G (v0:=0)) Lw q dC (Re q) ⟨q,Zt⟩ q q (Zw q) q q (λr' new hS=>?_)
 obtain⟨rfl,rfl⟩:=hS
 refine⟨_,_,q,(Ro q),q,Kv,?_⟩
 exact Zd q q q
 refine X3b ?_
 refine X2a ?_
 refine zo (λ_=>?_) ?_
 refine WL.wing [5,6] q q q q (f41_c H (vo:=0) (vf:=0)) Lw q dC (Re (Re q)) ⟨q,q,Zt⟩ q q (Zw q) q q (λr' new hS=>?_)
 obtain⟨rfl,rfl⟩:=hS
 refine⟨_,_,q,(Rg (Rf q)),q,Kv,?_⟩
 exact Zd q q q
 refine X3a ?_
 refine zo (λ_=>wF Z4 (f42_c I) Lw Z3 (Zd q q q)) ?_
 refine zo (λ_=>Zq (mB p90 z90 q q) q (Zd q q q)) ?_
 refine zo (λ_=>Bx q q q (Zd q q q)) ?_
 exact Y1 Zt
 refine Rxc 1 q (Jn1 (λ_=> [(6, .pt 7 0)]) (λp=> [.rsv, .rsv, .rsv, .rsv, .os 101 5 0 (eM dV p),oS 0 6 0 a,fS 0 a, .row 90 [.l E45 f, .l cJ g, .os 4 0, .n t0.excs, .os 5 0, .l E2 m,sN]]) h (λJ h=>?_) λp h=>?_)
 refine Rcl 6 q (Zq (iY (aF dV) j e33 q q q) q (Rlc 4 q (Ln2 (λt _=> [(6, .pt 7 0),(32, .n (List.length j:Int)),(33, .n t)]) (λ_ w=> [.rsv, .rsv, .rsv, .rsv, .os 101 5 0 (eM dV w),oS 0 6 0 a,fS 0 a, .row 90 [.l E45 f, .l cJ g, .os 4 0, .n t0.excs, .os 5 0, .l E2 m,sN]]) (f10_l1 j J) h (λ_ _ h=>by rw[f10_l1] at h;cases h) λn t w h=>?_)))
 rw[f10_l1] at h
 refine Rcc 6 q (Ci h q (λh=>?_) λh=>?_)
 refine Rcc 10 q ?_
 obtain⟨M,y,h⟩:=aa h
 obtain⟨A,K,h⟩:=aa h
 obtain⟨e,B,h⟩:=aa h
 apply RT [_,_,_,_,_,_,_,_,_,_,_,_,_,_,_,_, .u] [16] [[.rsv, .rsv, .rsv, .rsv, .os 101 5 0 (eM dV (List.set w (Int.toNat t) (Obj.mk e.size e.lo e.hi e.ptr A))),oS 0 6 0 a,fS 0 a, .row 90 [.l E45 f, .l cJ g, .os 4 0, .n t0.excs, .os 5 0, .l E2 m,sN]]] [p01 6,p10 0,p10 1,p10 2,p01 7,p01 6,p10 5,p10 6,p10 7,p01 7,p20 8 9,p10 10,p10 11,p10 12,p20 3 4,p10 14,p20 15 13] kR kR q q
 refine Y9 ?_
 refine Y1 ?_
 refine zo (λ_=>Zq (n6 e33 q q q y) q (Zd q q q)) ?_
 refine zo (λ_=>Zq (fK f101_4 q q) q (Zd q q q)) ?_
 refine zo (λ_=>Zq (oa (fo:=4) q q q a96 (λ_=>q) y q) q (Zd q q q)) ?_
 refine zo (λ_=>wF Z4 (f43_c K) Lw Z3 (Zd q q q)) ?_
 refine zo (λ_=>Zq (n6 e33 q q q B) q (Zd q q q)) ?_
 refine zo (λ_=>Zq (fK f101_4 q q) q (Zd q q q)) ?_
 exact zo (λ_=>WL.s0 (dl (R:=dV) (k:=5) (i:=t) (fo:=4) (Obj.mk e.size e.lo e.hi e.ptr A) q q q q Zl q q q s96 q (λ_=>q) B q q) (Zw q) q (aY q q)) Zt
 exact Rxx 6 q (Fn2 h)
 exact Rcx 4 q (En1 h)
 refine Rcc 1 q (WC.nil_cell 7 6 2 1 q q (Rcx 7 q ?_))
 refine WE.freezeX [] [(7,2)] 4 _ q (bO cg _) Zt ⟨_,_,q,q,Zt⟩ ?_
 obtain rfl:=Oi h
 exact eC (st1:=[.rsv, .rsv, .rsv, .rsv, .z,oS 0 6 0 a,fS 0 a, .row 90 (mR f g p t0.excs 5 0 m 8 0), .os 2 1 0 (eM E2 ([]:lI))]) [7,5,6,8] (.tu [.pt 0 0, .d (.i .i64 0)]) [.row 90 (mR f g p t0.excs 1 0 m 3 0),oS 0 2 0 a,fS 0 a, .os 2 1 0 (eM E2 ([]:lI))] (λi=>List.getD [0,0,0,0] i 0) (λi=>List.getD [0,vo,vf,vu] i 0) (rs2 q (ap q) (ap q)) q (Le.tu Lw) Tv dC (Re (Rg (Rf (Ro q)))) ⟨q,q,q,q,Zt⟩ Kv q hmm q q ⟨Zt,q,q,q,Zt⟩ q (dB (by simp[AO.rv,AV.rv]) (dB (qS _ _ _ _ _ _ _ _ q) (dB (qT _ _ _ _ _ _ _ _) (dB (oY _ _ _ _ _ _ _ _) q)))) (by simp[AV.rv,AV.rvs]) ⟨q,q⟩

theorem f10b_c{t0:ao}{a:lI}{r:Unit×Int}(h:f10b t0 a=some r):Pu prog 10 [.ag (R38 t0), .sl (List.map E2 a)] (.tu [.v (nilOf r.1), .i .i64 r.2]):=by
 unfold f10b at h
 refine fI func10 λ_ _=>?_
 refine Rcl 2 q (Bd q q (Zs _) q (Rll 8 q ?_))
 obtain⟨e,d,h⟩:=aa h
 refine wF Z4 (f37_c d) Lw Z3 (Rlc 3 q (Ci h q (λh=>?_) λh=>?_))
 exact Rcx 8 q (FA h)
 refine Rcc 3 q ?_
 cases h

theorem f28z_c{r:lL}(h:f28z=some r):Ctr prog 28 [.d (.v (.pointer none))] [] (cX 0 (λr' new=>r'= .l E42 r∧new=[])):=by
 unfold f28z at h
 refine cI func28 λ_ _ _ hmm=>?_
 refine Rcl 9 q (WL.wing [] q q q q (f47z_c (r:=true) q) Lw q dC q Zt q q (Zw q) q q λr' new hS=>?_)
 obtain⟨rfl,rfl⟩:=hS
 refine⟨_,_,q,q,q,q,?_⟩
 refine St q (Rlc 2 q (bF q (Rcx 7 q ?_)))
 obtain rfl:=Oi h
 exact az (new:=[]) (r0:= .l E42 []) (rs1 q (ap q)) Le.nil q Zt ⟨q,q⟩

theorem f66_c{x0:ak}:Pu prog 66 [.ag (R45 x0)] (.ag (R38 (f66 x0))):=by
 generalize h:f66 x0=r
 unfold f66 at h
 refine fI func66 λ_ _=>?_
 refine Rcl 2 q (Bd q q (Zs _) q (Al z38 q (Rll 5 q (Zq (aB p45 z45 q q) q (Zq (aB p45 z45 q q) q (WL.s ((NewOs.b (aJ l23 z45 q dC dC q q q dC)).does) (Zw q) q q (Zq (aB p108 pJ q q) q (WL.s ((NewOs.b (aJ l29 pJ q dC dC q q q dC)).does) (Zw q) q q (Zq (aB p101 lw q q) q (WL.s ((NewOs.b (NewOs.weak (es':=List.map (aF dV) [(Obj.mk 1 0 9 false [])]) (aJ l33 lw q dC dC q q q dC) (by exact⟨⟨Zl,Zl,Zl,Zl,Le.nil,Zt⟩,Zt⟩))).does) (Zw q) q q (Zq (aB p164 tI q q) q (WL.s ((NewOs.b (NewOs.weak (es':=List.map (aF uB) [(dH.mk 0 [])]) (aJ l35 tI q dC dC q q q dC) (by exact⟨⟨Zl,Le.nil,Zt⟩,Zt⟩))).does) (Zw q) q q (Zq (aB p27 z27 q q) q ?_)))))))))))))
 refine WL.s ((NewOs.b (NewOs.weak (es':=List.map (aF R27) [(dZ.mk 0 0 [] 0)]) (aJ l28 z27 q dC dC q q q dC) (by exact⟨⟨Zl,Zl,Le.nil,Zl,Zt⟩,Zt⟩))).does) (Zw q) q q (Zq (mB p38 z38 q q) q (WL.s0 (rD q q q q q q s38 q q) (Zw q) q (St q (Rlx 3 q ?_))))
 refine WE.freezeX [6] [(0,0)] 1 _ q (bO dE [x0,(ak.mk 57 0 0 0 0 0 0),(ak.mk 57 0 0 0 0 0 0)]) ⟨q,Zt⟩ ⟨_,_,q,q,Zt⟩ ?_
 refine WE.freezeX [8] [(0,1)] 2 _ q (bO d7 [(an.mk 0 1 2 false)]) ⟨q,Zt⟩ ⟨_,_,q,q,Zt⟩ ?_
 refine WE.freezeX [10] [(0,5)] 3 _ q (bO cg [(Obj.mk 1 0 9 false [])]) ⟨q,Zt⟩ ⟨_,_,q,q,Zt⟩ ?_
 refine WE.freezeX [14] [(0,8)] 5 _ q (bO mt [(dZ.mk 0 0 [] 0)]) ⟨q,Zt⟩ ⟨_,_,q,q,Zt⟩ ?_
 refine WE.freezeX [12] [(0,9)] 4 _ q (bO mu [(dH.mk 0 [])]) ⟨q,Zt⟩ ⟨_,_,q,q,Zt⟩ ?_
 subst h
 exact aS (rs1 q (cz q q a38 s38 q)) (aw ⟨Zl,Zl,Le.nil,Le.nil,Le.nil,Zl,Le.nil,Zl,Zl,Zl,Le.nil,Zt⟩)

theorem f35_c{x0:ak}{v1:Int}{r:bj×lA×Int}(h:f35 x0 v1=some r):Pu prog 35 [.ag (R45 x0), .i .i64 v1] (.tu [.ag (R41 r.1), .sl (List.map E58 r.2.1), .i .i64 r.2.2]):=by
 unfold f35 at h
 refine fI func35 λ_ _=>?_
 refine Rcl 2 q (Bd q q (Zs _) q (Al z41 q (Rll 7 q (wF Z4 (f66_c) Lw Z3 (WL.s ((NewOs.b (aJ l42 z2 q dC dC q q q dC)).does) (Zw q) q q ?_)))))
 refine WL.freezeX [12] [] 1 _ q (bO fH [8]) ⟨q,Zt⟩ Zt ?_
 obtain⟨d,j,h⟩:=aa h
 rcases iS d with a|a
 replace h:=dP h a
 refine eY ep (eY ep (eY ep (eY ep ?_)))
 obtain⟨k,e,h⟩:=aa h
 refine WL.wing [2,3,4,5] q q q q (f10_c e (vo:=0) (vf:=0) (vu:=0)) Lw q dC (Re (Re (Re (Re q)))) ⟨q,q,q,q,Zt⟩ q q (Zw q) q q (λr' new hS=>?_)
 obtain⟨rfl,rfl⟩:=hS
 refine⟨_,_,q,(Re (Rg (Rf (Ro q)))),q,Kv,?_⟩
 refine St q (Rl 5 q (Zn (Rcc 7 q (Ci h q (λh=>?_) λh=>?_))))
 refine Rcl 2 q (Zq (aB p41 z41 q q) q (Rl 1 q (sS Z6 s41 Z2 (St q (Rlx 6 q ?_)))))
 obtain rfl:=Oi h
 exact aS (rs3 q (cz q q a41 s41 q) (ap q) (ap q)) (bd ⟨(aw (Zs _)),Le.nil,Zl,Zt⟩)
 refine Rcl 6 q (Zq (qz dG z39 q q) q (Zq (aB p41 z41 q q) q ?_))
 obtain⟨m,f,h⟩:=aa h
 refine WL.wing [2,3,4,5] q q q q (f11_c f) ⟨Zl,(aw (Zs _)),Zt⟩ q dC (Re (Rg (Rf (Ro q)))) ⟨q,q,q,q,Zt⟩ Kv q (Zw q) q q (λr' new hS=>?_)
 obtain⟨i2_35,i3_35,rfl,rfl⟩:=hS
 refine⟨_,_,q,(Re (Rg (Rf (Ro q)))),q,Kv,?_⟩
 refine St q (Rl 3 q (sS Z6 s41 Z2 (St q (Rlx 5 q ?_))))
 obtain rfl:=Oi h
 exact aS (rs3 q (cz q q a41 s41 q) (ap q) (ap q)) (bd ⟨(aw (Zs _)),Zl,Zl,Zt⟩)
 replace h:=dQ h a
 obtain⟨p,g,h⟩:=aa h
 refine wF Z4 (f10b_c g) Lw Z3 (Rl 5 q (Zn (Rcc 7 q (Ci h q (λh=>?_) λh=>?_))))
 refine Rcl 2 q (Zq (aB p41 z41 q q) q (Rl 1 q (sS Z6 s41 Z2 (St q (Rlx 6 q ?_)))))
 obtain rfl:=Oi h
 exact aS (rs3 q (cz q q a41 s41 q) (ap q) (ap q)) (bd ⟨(aw (Zs _)),Le.nil,Zl,Zt⟩)
 refine Rcc 3 q ?_
 cases h

theorem f9_c{r:Bool}(h:f9=some r):Pu prog 9 [] (.b r):=by
 unfold f9 at h
 refine fI func9 λ_ _=>?_
 refine Rcl 7 q (Zq (aB p45 z45 q q) q ?_)
 obtain⟨g,w,h⟩:=aa h
 refine wF Z4 (f35_c w) ⟨(aw (Zs _)),Zl,Zt⟩ Z3 (Rl 4 q (Al z41 q (sS Z6 s41 Z2 (St q (Rll 6 q (Zq (aB p45 z45 q q) q ?_))))))
 obtain⟨K,x,h⟩:=aa h
 refine wF Z4 (f35_c x) ⟨(aw (Zs _)),Zl,Zt⟩ Z3 (Rl 4 q (Al z41 q (sS Z6 s41 Z2 (St q (Rll 6 q (Zq (aB p45 z45 q q) q ?_))))))
 obtain⟨L,y,h⟩:=aa h
 refine wF Z4 (f35_c y) ⟨(aw (Zs _)),Zl,Zt⟩ Z3 (Rl 4 q (Al z41 q (sS Z6 s41 Z2 (St q (Rll 6 q (Zq (aB p45 z45 q q) q ?_))))))
 obtain⟨M,A,h⟩:=aa h
 refine wF Z4 (f35_c A) ⟨(aw (Zs _)),Zl,Zt⟩ Z3 (Rl 4 q (Al z41 q (sS Z6 s41 Z2 (St q (Rll 6 q (Zq (aB p45 z45 q q) q ?_))))))
 obtain⟨N,B,h⟩:=aa h
 refine wF Z4 (f35_c B) ⟨(aw (Zs _)),Zl,Zt⟩ Z3 (Rl 4 q (Al z41 q (sS Z6 s41 Z2 (St q (Rll 6 q (Zq (aB p45 z45 q q) q ?_))))))
 obtain⟨k,C,h⟩:=aa h
 refine wF Z4 (f35_c C) ⟨(aw (Zs _)),Zl,Zt⟩ Z3 (Rl 4 q (Al z41 q (sS Z6 s41 Z2 (St q (Rll 6 q (Zq (aB p45 z45 q q) q ?_))))))
 obtain⟨E,F,h⟩:=aa h
 refine wF Z4 (f35_c F) ⟨(aw (Zs _)),Zl,Zt⟩ Z3 (Rl 4 q (Al z41 q (sS Z6 s41 Z2 (St q (Rll 7 q (Zq (aB p41 z41 q q) q (Zq (iB (xs:=(V41 g.1)) (ys:=[.int .i64 0, .int .i64 0, .int .i64 0, .int .i64 0, .int .i64 0, .int .i64 0, .int .i64 0, .int .i64 0, .int .i64 0, .int .i64 0, .int .i64 0, .int .i64 0, .int .i64 0, .int .i64 0, .int .i64 0, .int .i64 0, .int .i64 2, .int .i64 1, .int .i64 0]) q41 q (aw (Zs _)) q (aw (Zs _)) q q q) q (Rl 1 q ?_))))))))
 apply WL.and 4 (t:=68) (d:=72)
 exact q
 intro O
 exact Rl 1 q (Zy (ab E58 g.2.1 e50 q q Zl) q q q (Rl 2 q (WL.nil ⟨q,[_,_,_,_],q,q,q⟩)))
 exact Rn 4 4
 refine Rl 1 q ?_
 obtain⟨G,H,h⟩:=aa h
 refine Gg 6 73 79 G H (λh=>?_) (λh=>?_) ?_
 refine Rl 1 q ?_
 obtain⟨e,m,h⟩:=aa h
 exact Zy (aj e50 q Zl q (ae m) (aR fy m) q) q q q (Rl 1 q (Zy (aB p58 z58 q q) q q q (Zy (iB (xs:=[.int .i64 e.time, .int .i64 e.task, .int .u8 e.kind, .int .i64 e.a, .int .i64 e.b, .int .i64 e.n]) (ys:=[.int .i64 0, .int .i64 0, .int .u8 5, .int .i64 1, .int .i64 0, .int .i64 0]) q58 q Zl q (aw (Zs _)) q q q) q q q (On 1 6 h))))
 exact On 6 6 h
 refine Rl 1 q ?_
 refine AG 3 80 83 3 3 ?_
 refine Rl 1 q ?_
 refine AG 3 84 87 3 3 ?_
 refine Rl 1 q ?_
 refine AG 3 88 91 3 3 ?_
 refine Rl 1 q ?_
 refine AG 3 92 95 3 3 ?_
 refine Rl 1 q ?_
 refine AG 3 96 99 3 3 ?_
 refine Rll 7 q ?_
 refine AG 3 101 104 3 3 ?_
 refine Rl 1 q ?_
 apply WL.and 5 (t:=105) (d:=110)
 exact q
 intro P
 exact Rl 1 q (Zy (ar dG q q dC dC) q q q (Zy (bJ (off:=0) (n:=16) (λj=> .n (k.1.r j)) q q a2 q dC) q q q (Rl 2 q (WL.nil ⟨q,[_,_,_,_,_],q,q,q⟩))))
 exact Rn 5 5
 refine Rl 1 q ?_
 apply WL.and 4 (t:=111) (d:=115)
 exact q
 intro Q
 exact Rl 1 q (Zy (ab E58 k.2.1 e50 q q Zl) q q q (Rl 2 q (WL.nil ⟨q,[_,_,_,_],q,q,q⟩)))
 exact Rn 4 4
 refine Rl 1 q ?_
 obtain⟨I,J,h⟩:=aa h
 refine Gg 6 116 122 I J (λh=>?_) (λh=>?_) ?_
 refine Rl 1 q ?_
 obtain⟨f,p,h⟩:=aa h
 exact Zy (aj e50 q Zl q (ae p) (aR fy p) q) q q q (Rl 1 q (Zy (aB p58 z58 q q) q q q (Zy (iB (xs:=[.int .i64 f.time, .int .i64 f.task, .int .u8 f.kind, .int .i64 f.a, .int .i64 f.b, .int .i64 f.n]) (ys:=[.int .i64 0, .int .i64 0, .int .u8 2, .int .i64 8, .int .i64 0, .int .i64 0]) q58 q Zl q (aw (Zs _)) q q q) q q q (On 1 6 h))))
 exact On 6 6 h
 refine Rl 1 q ?_
 refine AG 3 123 126 3 3 ?_
 refine Rl 1 q ?_
 apply WL.and 5 (t:=127) (d:=132)
 exact q
 intro R
 exact Rl 1 q (Zy (ar dG q q dC dC) q q q (Zy (bJ (off:=0) (n:=16) (λj=> .n (E.1.r j)) q q a2 q dC) q q q (Rl 2 q (WL.nil ⟨q,[_,_,_,_,_],q,q,q⟩))))
 exact Rn 5 5
 refine Rl 1 q ?_
 refine AG 4 133 137 4 4 ?_
 refine Rl 1 q ?_
 apply WL.and 2 (t:=138) (d:=140)
 exact q
 intro S
 exact WL.fn q q q q (f36_c) Lw (bu q q q) q q (Rl 1 q (WL.nil ⟨q,[_,_],q,q,q⟩))
 exact Rn 2 2
 refine Rl 1 q ?_
 apply WL.and 3 (t:=141) (d:=144)
 exact q
 intro T
 exact WL.fn q q q q (f36_c) Lw (bu q q q) q q (Rl 2 q (WL.nil ⟨q,[_,_,_],q,q,q⟩))
 exact Rn 3 3
 exact Rlx 4 q (FA h)

theorem f34_c{o0:Obj}{v1:Int}{r:Bool}(h:f34 o0 v1=some r):Pu prog 34 [.ag (dV o0), .i .i64 v1] (.b r):=by
 unfold f34 at h
 refine fI func34 λ_ _=>?_
 refine Rcl 2 q (Bd q q (Zs _) q (Rlc 11 q (Ci h q (λh=>?_) λh=>?_)))
 refine Rcl 7 q ?_
 refine AG 5 13 18 5 5 ?_
 exact Rlx 5 q (FA h)
 refine Rcc 2 q (Jn0 [(1, .n v1)] [] h (λe h=>?_) λh=>?_)
 refine Rcc 6 q (Ln1 (λa=> [(1, .n v1),(2, .d (.pc (dV o0))),(5, .n a)]) (λ_=> []) (f34_l1 o0 v1 e) h (λ_ h=>by rw[f34_l1] at h;cases h) λn a h=>?_)
 rw[f34_l1] at h
 refine Rcl 6 q (Zq (ab E3 o0.set_ e96 q q Zl) q (Rlc 3 q (Ci h q (λh=>?_) λh=>?_)))
 refine Rcl 10 q (Ix h e96 iy q Zl q q λf _ h=>(Rlc 5 q (Ci h q (λh=>?_) λh=>?_)))
 exact Rcx 11 q (FA h)
 exact Rcx 8 q (Fn1 h)
 exact Rcx 4 q (En0 h)
 exact Rcx 8 q (FA h)

theorem f30_c{t0:ao}{a1:Int}:Pu prog 30 [.ag (R38 t0), .i .i64 a1] (.b (f30 t0 a1)):=by
 generalize h:f30 t0 a1=r
 unfold f30 at h
 refine fI func30 λ_ _=>?_
 refine Rcl 2 q (Bd q q (Zs _) q (Rll 8 q ?_))
 apply WL.and 6 (t:=7) (d:=13)
 exact q
 intro a
 exact Rl 3 q (Zy (ab E45 t0.insns e23 q q Zl) q q q (Rl 2 q (WL.nil ⟨q,[_,_,_,_,_,_],q,q,q⟩)))
 exact Rn 6 6
 exact Rlx 4 q (FB h)

theorem f31_c{t0:ao}{r1:bj}:Pu prog 31 [.ag (R38 t0), .ag (R41 r1)] (.b (f31 t0 r1)):=by
 generalize h:f31 t0 r1=r
 unfold f31 at h
 refine fI func31 λ_ _=>?_
 refine Rcl 2 q (Bd q q (Zs _) q (Bd q q (Zs _) q (Rll 8 q (wF Z4 (f30_c) Lw Z3 (Rl 1 q ?_)))))
 refine AG 4 9 13 4 4 ?_
 refine Rl 1 q ?_
 refine AG 6 14 20 6 6 ?_
 refine Rl 1 q ?_
 refine AG 4 21 25 4 4 ?_
 refine Rl 1 q ?_
 refine AG 4 26 30 4 4 ?_
 exact Rlx 4 q (FB h)

theorem f29_c{a0:lL}{b1:lL}{r:Bool}(h:f29 a0 b1=some r):Pu prog 29 [.sl (List.map E42 a0), .sl (List.map E42 b1)] (.b r):=by
 unfold f29 at h
 refine fI func29 λ_ _=>?_
 refine Rcl 9 q (Zq (ab E42 a0 e62 q q Zl) q (Rl 1 q (Zq (ab E42 b1 e62 q q Zl) q (Rlc 3 q (Ci h q (λh=>?_) λh=>?_)))))
 exact Rcx 7 q (FA h)
 refine Rcc 2 q (Jn0 [] [] h (λp h=>?_) λh=>?_)
 refine Rcc 6 q (Ln1 (λa=> [(0, .l E42 a0),(1, .l E42 b1),(5, .n a)]) (λ_=> []) (f29_l1 a0 b1 p) h (λ_ h=>by rw[f29_l1] at h;cases h) λn a h=>?_)
 rw[f29_l1] at h
 refine Rcl 5 q (Zq (ab E42 a0 e62 q q Zl) q (Rlc 3 q (Ci h q (λh=>?_) λh=>?_)))
 refine Rcc 2 q (Jn0 [(0, .l E42 a0),(1, .l E42 b1),(5, .n a)] [] h (λt h=>?_) λh=>?_)
 refine Rcc 3 q (am kR kR (Rq 2 q ?_))
 obtain⟨w,d,h⟩:=aa h
 refine WQ.qn (aj e62 q Zl q (ae d) (aR eP d) q) q (Rq 1 q (WQ.qn (ab E2 w e42 q q Zl) q (Rq 2 q ?_)))
 obtain⟨x,e,h⟩:=aa h
 refine WQ.qn (aj e62 q Zl q (ae e) (aR eP e) q) q (Rq 1 q (WQ.qn (ab E2 x e42 q q Zl) q (Rq 1 q (WQ.nil (Rxc 1 q (Ci h q (λh=>?_) λh=>?_))))))
 exact Rcx 12 q (FA h)
 refine Rcc 8 q (Ln1 (λf=> [(0, .l E42 a0),(1, .l E42 b1),(5, .n a),(6, .n f)]) (λ_=> []) (f29_l2 a0 b1 a t) h (λ_ h=>by rw[f29_l2] at h;cases h) λna f h=>?_)
 rw[f29_l2] at h
 refine Rcl 6 q (Ix h e62 eP q Zl q q λy _ h=>(Rl 1 q (Zq (ab E2 y e42 q q Zl) q (Rlc 3 q (Ci h q (λh=>?_) λh=>?_)))))
 refine Rcc 5 q (am kR kR (Rq 2 q ?_))
 obtain⟨A,g,h⟩:=aa h
 refine WQ.qn (aj e62 q Zl q (ae g) (aR eP g) q) q (Rq 2 q ?_)
 obtain⟨B,j,h⟩:=aa h
 refine WQ.qn (aj e42 q Zl q (ae j) (aR fH j) q) q (Rq 3 q ?_)
 obtain⟨C,k,h⟩:=aa h
 refine WQ.qn (aj e62 q Zl q (ae k) (aR eP k) q) q (Rq 2 q ?_)
 obtain⟨E,m,h⟩:=aa h
 refine WQ.qn (aj e42 q Zl q (ae m) (aR fH m) q) q (Rq 2 q (WQ.nil (Rxc 1 q (Ci h q (λh=>?_) λh=>?_))))
 exact Rcx 15 q (FA h)
 exact Rcx 8 q (Fn1 h)
 exact Rcx 5 q (En0 h)
 exact Rcx 5 q (Fn1 h)
 exact Rcx 4 q (En0 h)
 exact Rcx 6 q (FA h)

theorem f108_c{ver:Nat}(l:lI){r:lI}(h:f108 l=some r):Ctr prog 108 [.os 0 ver] [.os 3 1 ver (eM E3 l)] (jr 1 (.tu []) (λ_=> [.os 3 1 ver (eM E3 r)])):=by
 unfold f108 at h
 obtain⟨h1,h⟩:=av h
 obtain rfl:=Oi h
 exact rI ⟨Tryz.f108,func108,by kernel_rfl,by kernel_rfl⟩ (λblk off cap zs w a b c=>Go.Proofs.Any.slices_Sort_int nr blk off cap zs w a b c) (λp cap w=>Go.Proofs.Any.slices_Sort_int_none nr p cap w) (of_decide_eq_true h1)

theorem f109_c{ver:Nat}(l:lI){r:lI}(h:f109 l=some r):Ctr prog 109 [.os 0 ver] [.os 3 1 ver (eM E3 l)] (jr 1 (.sl (List.map E3 r)) (λ_=> [.z])):=by
 obtain rfl:=Oi h
 exact nH ⟨Tryz.f109,func109,by kernel_rfl,by kernel_rfl⟩ (λblk off cap zs w a b c=>Go.Proofs.Any.slices_Compact_int jh blk off cap zs w a b c) (λp cap w=>Go.Proofs.Any.slices_Compact_int_empty jh p cap w) (Lib.compact_length_le l)

theorem f146_c(h0:an)(a:Int)(e:Bool):Pu prog 146 [.ag (ql h0), .pc (E3 a), .pc (E4 e)] (.b (f146 h0 a e)):=by
 generalize h:f146 h0 a e=r
 unfold f146 at h
 refine fI func146 λ_ _=>?_
 refine Rcl 2 q (Bd q q (Zs _) q (Rll 10 q ?_))
 refine AG 5 9 14 5 5 ?_
 refine Rl 1 q ?_
 apply WL.and 7 (t:=15) (d:=22)
 exact q
 intro f
 refine Rl 3 q ?_
 refine OG 3 18 21 3 3 ?_
 exact Rn 1 5
 exact Rn 7 7
 exact Rlx 4 q (FB h)

theorem f106_c{t0:ao}{at1:Int}{a:Bool}{r:Int×Bool}(h:f106 t0 at1 a=some r):Pu prog 106 [.ag (R38 t0), .i .i64 at1, .b a] (.tu [.i .i64 r.1, .b r.2]):=by
 unfold f106 at h
 refine fI func106 λ_ _=>?_
 refine Rcl 2 q (Bd q q (Zs _) q (WL.s ((gU q q (by exact(show Les [.n at1] (List.map AV.d [.i .i64 at1]) from Lw))).does) (Zw q) q q (WL.s ((gU q q (by exact(show Les [.d (D.b a)] (List.map AV.d [.b a]) from Lw))).does) (Zw q) q q (Rll 9 q ?_))))
 obtain⟨f,e,h⟩:=aa h
 refine wF Z4 (f100_c _ _ 146 [] [(.pc (E3 at1)),(.pc (E4 a))] (λz0 _ h=>by obtain rfl:=inS h;exact f146_c z0 at1 a) e) ⟨Zl,(Le.fnc Zt Lw),Zt⟩ Z3 (Rlc 10 q (Ci h q (λh=>?_) λh=>?_))
 exact Rcx 8 q (FA h)
 exact Rcl 7 q (Ix h e29 d7 q Zl q q λg _ h=>(Rlx 7 q (FA h)))

theorem f107_c{o0:Int}:Pu prog 107 [.i .u8 o0] (.b (f107 o0)):=by
 generalize h:f107 o0=r
 unfold f107 at h
 refine fI func107 λ_ _=>?_
 refine Rcc 12 q (Jn1 (λa=> [(4, .d (D.b a))]) (λ_=> []) h (λ_ h=>?_) λa h=>?_)
 refine Rcc 6 q (Ci h q (λh=>Rcx 1 q (En1 h)) λh=>?_)
 refine Rcc 6 q (Ci h q (λh=>Rcx 1 q (En1 h)) λh=>?_)
 refine Rcc 6 q (Ci h q (λh=>Rcx 1 q (En1 h)) λh=>?_)
 refine Rcc 6 q (Ci h q (λh=>Rcx 1 q (En1 h)) λh=>?_)
 refine Rcc 6 q (Ci h q (λh=>Rcx 1 q (En1 h)) λh=>?_)
 refine Rcc 6 q (Ci h q (λh=>Rcx 1 q (En1 h)) λh=>?_)
 refine Rcc 6 q (Ci h q (λh=>Rcx 1 q (En1 h)) λh=>?_)
 refine Rcc 6 q (Ci h q (λh=>Rcx 1 q (En1 h)) λh=>?_)
 exact Rcc 6 q (Ci h q (λh=>Rcx 1 q (En1 h)) λh=>Rcx 4 q (En1 h))
 refine Ci h q (λh=>?_) (λh=>?_)
 exact Rcx 8 q (FB h)
 exact Rcx 9 q (FB h)

theorem f65_c{t0:ao}{at1:Int}{r:lI}(h:f65 t0 at1=some r):Pu prog 65 [.ag (R38 t0), .i .i64 at1] (.sl (List.map E3 r)):=by
 unfold f65 at h
 refine fI func65 λ_ _=>?_
 refine Rcl 2 q (Bd q q (Zs _) q (Rll 5 q (Al z96 q (Rll 13 q (Ix h e23 dE q Zl q q λe _ h=>(Rl 1 q (Al z45 q (sS Z6 s45 Z2 (Rlc 2 q (WC.nil_cell 0 0 3 1 q q ?_))))))))))
 replace h:=ah h
 obtain⟨P,Q,h⟩:=h
 refine cH (λenv' st'=>∃(g:lI),∃(j:Nat),P g=some r∧Sub [(1, .n at1),(2, .d (.pc (R38 t0))),(5, .pt 0 0),(6, .fn (.func 105) [] [.pt 0 0]),(7, .pt 1 0)] env'∧SLe st' [.row 96 [.os 2 j], .row 45 [.d (D.i .u8 e.op), .n e.d, .n e.a, .n e.b, .n e.n, .n e.m, .n e.to], .os 3 1 j (eM E3 g)]) ?_ ?_
 refine Rcc 7 q (Jn1 (λL=> [(1, .n at1),(2, .d (.pc (R38 t0))),(5, .pt 0 0),(6, .fn (.func 105) [] [.pt 0 0]),(7, .pt 1 0),(30, .d (D.b L))]) (λ_=> [.row 96 [.os 2 0], .row 45 [.d (D.i .u8 e.op), .n e.d, .n e.a, .n e.b, .n e.n, .n e.m, .n e.to], .os 3 1 0 (eM E3 [])]) h (λ_ h=>?_) λL h=>?_)
 refine Rcc 6 q (Ci h q (λh=>Rcx 1 q (En1 h)) λh=>?_)
 refine Rcc 6 q (Ci h q (λh=>Rcx 1 q (En1 h)) λh=>?_)
 refine Rcc 6 q (Ci h q (λh=>Rcx 1 q (En1 h)) λh=>?_)
 refine Rcc 6 q (Ci h q (λh=>Rcx 1 q (En1 h)) λh=>?_)
 exact Rcc 6 q (Ci h q (λh=>Rcx 1 q (En1 h)) λh=>Rcx 4 q (En1 h))
 refine Ci h q (λh=>?_) (λh=>?_)
 exact Rcx 2 q (En2 h)
 refine Rcl 8 q (Zq (ab E45 t0.insns e23 q q Zl) q (Rl 1 q ?_))
 obtain⟨R,S,h⟩:=ah h
 obtain⟨T,U,h⟩:=ah h
 refine WL.inl (us:=[.n (IntKind.i64.wrap (at1+1)), .d (D.b (decide ((IntKind.i64.wrap (at1+1))<(List.length t0.insns:Int)))), .pt 0 0]) (λrv st'=>(R ()=some r∧Le rv (.tu [])∧SLe st' [.row 96 [.os 2 1], .row 45 [.d (D.i .u8 e.op), .n e.d, .n e.a, .n e.b, .n e.n, .n e.m, .n e.to], .os 3 1 1 (eM E3 ([]++ [(IntKind.i64.wrap (at1+1))])), .os 3 1 0 (eM E3 [(IntKind.i64.wrap (at1+1))])])∨(T ()=some r∧Le rv (.tu [])∧SLe st' [.row 96 [.os 2 0], .row 45 [.d (D.i .u8 e.op), .n e.d, .n e.a, .n e.b, .n e.n, .n e.m, .n e.to], .os 3 1 0 (eM E3 [])])) q q q q q ?_ (Zw q) q q ?_
 refine cI func105 λ_ _ _ _=>?_
 refine Rcc 5 q (Ci h q (λh=>?_) λh=>?_)
 refine Rcl 3 q (WL.s ((NewOs.b (aJ l96 z3 q dC dC q q q dC)).does) (Zw q) q q ?_)
 replace h:=av h
 obtain⟨V,h⟩:=h
 exact WL.s (bR E3 [] [(IntKind.i64.wrap (at1+1))] l96 z3 q dC q q q q (Src.own q) (λ_=>q) (λ_=>q) V) (Zw q) q q (WL.s0 (ct q q q (dc q) s96 q) (Zw q) q (Rlx 1 q (cG (af (bT q) (.inl ⟨h,Zl,⟨Zp,Zp,Zf,Zf,Zt⟩⟩)))))
 exact Rcx 1 q (cG (af (bT q) (.inr (⟨h,Zl,⟨Zp,Zp,Zf,Zt⟩⟩))))
 rintro rv st1 (⟨h,hr,hst⟩|⟨h,hr,hst⟩)
 subst S
 dsimp only at h
 exact WL.cast 29 q hr (WL.weak hst (WL.nil (Rxx 1 q (WE.drop 3 (env':=[(1, .n at1),(2, .d (.pc (R38 t0))),(5, .pt 0 0),(6, .fn (.func 105) [] [.pt 0 0]),(7, .pt 1 0)]) Sb q Kv (Nat.zero_le _) (En2 h)))))
 subst U
 dsimp only at h
 exact WL.cast 29 q hr (WL.weak hst (WL.nil (Rxx 1 q (En2 h))))
 rintro A st1 ⟨g,j,h,hsub,hst⟩
 subst Q
 dsimp only at h
 refine WC.sub hsub (WC.weak hst ?_)
 replace h:=ah h
 obtain⟨M,W,h⟩:=h
 refine cH (λenv' st'=>∃(x:lI),∃(t:Nat),M x=some r∧Sub [(1, .n at1),(2, .d (.pc (R38 t0))),(5, .pt 0 0),(6, .fn (.func 105) [] [.pt 0 0]),(7, .pt 1 0)] env'∧SLe st' [.row 96 [.os 2 t], .row 45 [.d (D.i .u8 e.op), .n e.d, .n e.a, .n e.b, .n e.n, .n e.m, .n e.to], .os 3 1 t (eM E3 x)]) ?_ ?_
 refine Rcc 7 q (Jn1 (λN=> [(1, .n at1),(2, .d (.pc (R38 t0))),(5, .pt 0 0),(6, .fn (.func 105) [] [.pt 0 0]),(7, .pt 1 0),(38, .d (D.i .u8 e.op)),(39, .d (D.b N))]) (λ_=> [.row 96 [.os 2 j], .row 45 [.d (D.i .u8 e.op), .n e.d, .n e.a, .n e.b, .n e.n, .n e.m, .n e.to], .os 3 1 j (eM E3 g)]) h (λ_ h=>?_) λN h=>?_)
 refine Rcc 6 q (Ci h q (λh=>Rcx 1 q (En1 h)) λh=>?_)
 refine Rcc 6 q (Ci h q (λh=>Rcx 1 q (En1 h)) λh=>?_)
 exact Rcc 6 q (Ci h q (λh=>Rcx 1 q (En1 h)) λh=>Rcx 4 q (En1 h))
 refine Ci h q (λh=>?_) (λh=>?_)
 refine Rcl 4 q ?_
 obtain⟨X,Y,h⟩:=ah h
 refine WL.inl (us:=[.n e.to, .d (D.b true), .pt 0 0]) (λrv st'=>(X ()=some r∧Le rv (.tu [])∧SLe st' [.row 96 [.os 2 (j+1)], .row 45 [.d (D.i .u8 e.op), .n e.d, .n e.a, .n e.b, .n e.n, .n e.m, .n e.to], .os 3 1 (j+1) (eM E3 (g++ [e.to])), .os 3 1 0 (eM E3 [e.to])])) q q q q q ?_ (Zw q) q q ?_
 refine cI func105 λ_ _ _ _=>?_
 refine Rcc 5 q (bF q (Rcl 3 q (WL.s ((NewOs.b (aJ l96 z3 q dC dC q q q dC)).does) (Zw q) q q ?_)))
 replace h:=av h
 obtain⟨Z,h⟩:=h
 exact WL.s (bR E3 g [e.to] l96 z3 q dC q q q q (Src.own q) (λ_=>q) (λ_=>q) Z) (Zw q) q q (WL.s0 (ct q q q (dc q) s96 q) (Zw q) q (Rlx 1 q (cG (af (bT q) ⟨h,Zl,⟨Zp,Zp,Zf,Zf,Zt⟩⟩))))
 rintro rv st1 ⟨h,hr,hst⟩
 subst Y
 dsimp only at h
 exact WL.cast 47 q hr (WL.weak hst (WL.nil (Rxx 1 q (WE.drop 3 (env':=[(1, .n at1),(2, .d (.pc (R38 t0))),(5, .pt 0 0),(6, .fn (.func 105) [] [.pt 0 0]),(7, .pt 1 0)]) Sb q Kv (Nat.zero_le _) (En2 h)))))
 refine Rcc 6 q (Ci h q (λh=>?_) λh=>?_)
 refine Rcc 8 q (db (λn env' st'=>∃(p:Int),∃(B:lI),∃(C:Nat),f65_l1 e M n p B=some r∧Sub [(1, .n at1),(2, .d (.pc (R38 t0))),(5, .pt 0 0),(6, .fn (.func 105) [] [.pt 0 0]),(7, .pt 1 0),(51, .n e.m),(52, .n p)] env'∧SLe st' [.row 96 [.os 2 C], .row 45 [.d (D.i .u8 e.op), .n e.d, .n e.a, .n e.b, .n e.n, .n e.m, .n e.to], .os 3 1 C (eM E3 B)]) (λn=>n) (Int.toNat (e.m - 0)+1) ⟨0,g,_,h,(Sx q (Sx q (Sx q (Sx q (Sx q (Sx q (Sx q (Sub.nil _)))))))),⟨Zp,Zp,Zf,Zt⟩⟩ ?_)
 rintro n A st1 ⟨p,B,C,h,hsub,hst⟩
 rcases n with _|n
 rw[f65_l1] at h;cases h
 rw[f65_l1] at h
 refine WC.sub hsub (WC.weak hst ?_)
 refine Rcc 6 q (Ci h q (λh=>?_) λh=>?_)
 refine Rcl 16 q ?_
 obtain⟨ad,ax,h⟩:=ah h
 refine WL.inl (us:=[.n (IntKind.i64.wrap (e.to+p)), .d (D.b true), .pt 0 0]) (λrv st'=>(ad ()=some r∧Le rv (.tu [])∧SLe st' [.row 96 [.os 2 (C+1)], .row 45 [.d (D.i .u8 e.op), .n e.d, .n e.a, .n e.b, .n e.n, .n e.m, .n e.to], .os 3 1 (C+1) (eM E3 (B++ [(IntKind.i64.wrap (e.to+p))])), .os 3 1 0 (eM E3 [(IntKind.i64.wrap (e.to+p))])])) q q q q q ?_ (Zw q) q q ?_
 refine cI func105 λ_ _ _ _=>?_
 refine Rcc 5 q (bF q (Rcl 3 q (WL.s ((NewOs.b (aJ l96 z3 q dC dC q q q dC)).does) (Zw q) q q ?_)))
 replace h:=av h
 obtain⟨a0,h⟩:=h
 exact WL.s (bR E3 B [(IntKind.i64.wrap (e.to+p))] l96 z3 q dC q q q q (Src.own q) (λ_=>q) (λ_=>q) a0) (Zw q) q q (WL.s0 (ct q q q (dc q) s96 q) (Zw q) q (Rlx 1 q (cG (af (bT q) ⟨h,Zl,⟨Zp,Zp,Zf,Zf,Zt⟩⟩))))
 rintro rv st1 ⟨h,hr,hst⟩
 subst ax
 dsimp only at h
 exact WL.cast 60 q hr (WL.weak hst (WL.nil (Rxx 6 q (WE.drop 3 (env':=[(1, .n at1),(2, .d (.pc (R38 t0))),(5, .pt 0 0),(6, .fn (.func 105) [] [.pt 0 0]),(7, .pt 1 0),(51, .n e.m),(52, .n (IntKind.i64.wrap (p+1)))]) Sb q Kv (Nat.zero_le _) (Fn3 h)))))
 exact Rcx 5 q (En2 h)
 refine Rcc 6 q (Ci h q (λh=>?_) λh=>?_)
 refine Rcl 6 q (Ix h e31 pH q Zl q q λf _ h=>(Rl 1 q (Al z155 q (sS Z6 s155 Z2 (Rlc 2 q ?_)))))
 replace h:=ah h
 obtain⟨O,a1,h⟩:=h
 refine cH (λenv' st'=>∃(y:lI),∃(w:Nat),O y=some r∧Sub [(1, .n at1),(2, .d (.pc (R38 t0))),(5, .pt 0 0),(6, .fn (.func 105) [] [.pt 0 0]),(7, .pt 1 0),(9, .pt 3 0)] env'∧SLe st' [.row 96 [.os 2 w], .row 45 [.d (D.i .u8 e.op), .n e.d, .n e.a, .n e.b, .n e.n, .n e.m, .n e.to], .os 3 1 w (eM E3 y), .row 155 [.l eA f.alts, .n f.obj, .n f.else_]]) ?_ ?_
 refine Rcl 4 q (Zq (ab eA f.alts qf q q Zl) q (Rlc 4 q (db (λn env' st'=>∃(I:Int),∃(E:lI),∃(F:Nat),f65_l2 f O n I E=some r∧Sub [(1, .n at1),(2, .d (.pc (R38 t0))),(5, .pt 0 0),(6, .fn (.func 105) [] [.pt 0 0]),(7, .pt 1 0),(9, .pt 3 0),(71, .l eA f.alts),(72, .n (List.length f.alts:Int)),(73, .n I)] env'∧SLe st' [.row 96 [.os 2 F], .row 45 [.d (D.i .u8 e.op), .n e.d, .n e.a, .n e.b, .n e.n, .n e.m, .n e.to], .os 3 1 F (eM E3 E), .row 155 [.l eA f.alts, .n f.obj, .n f.else_]]) (λn=>n) (Int.toNat ((List.length f.alts:Int) - 0)+1) ⟨0,g,_,h,(Sx q (Sx q (Sx q (Sx q (Sx q (Sx q (Sx q (Sx q (Sx q (Sub.nil _)))))))))),⟨Zp,Zp,Zf,Zp,Zt⟩⟩ ?_)))
 rintro n A st1 ⟨I,E,F,h,hsub,hst⟩
 rcases n with _|n
 rw[f65_l2] at h;cases h
 rw[f65_l2] at h
 refine WC.sub hsub (WC.weak hst ?_)
 refine Rcc 6 q (Ci h q (λh=>?_) λh=>?_)
 refine Rcl 6 q (Ix h qf pG q Zl q q λk _ h=>(Rl 1 q (Al z158 q (sS Z6 s158 Z2 (Rll 6 q ?_)))))
 obtain⟨a6,a7,h⟩:=ah h
 refine WL.inl (us:=[.n k.at_, .d (D.b true), .pt 0 0]) (λrv st'=>(a6 ()=some r∧Le rv (.tu [])∧SLe st' [.row 96 [.os 2 (F+1)], .row 45 [.d (D.i .u8 e.op), .n e.d, .n e.a, .n e.b, .n e.n, .n e.m, .n e.to], .os 3 1 (F+1) (eM E3 (E++ [k.at_])), .row 155 [.l eA f.alts, .n f.obj, .n f.else_], .row 158 [.d (D.i .u8 k.kind), .n k.entry, .n k.guard, .n k.time, .n k.at_], .os 3 1 0 (eM E3 [k.at_])])) q q q q q ?_ (Zw q) q q ?_
 refine cI func105 λ_ _ _ _=>?_
 refine Rcc 5 q (bF q (Rcl 3 q (WL.s ((NewOs.b (aJ l96 z3 q dC dC q q q dC)).does) (Zw q) q q ?_)))
 replace h:=av h
 obtain⟨a8,h⟩:=h
 exact WL.s (bR E3 E [k.at_] l96 z3 q dC q q q q (Src.own q) (λ_=>q) (λ_=>q) a8) (Zw q) q q (WL.s0 (ct q q q (dc q) s96 q) (Zw q) q (Rlx 1 q (cG (af (bT q) ⟨h,Zl,⟨Zp,Zp,Zf,Zp,Zp,Zf,Zt⟩⟩))))
 rintro rv st1 ⟨h,hr,hst⟩
 subst a7
 dsimp only at h
 exact WL.cast 80 q hr (WL.weak hst (WL.nil (Rxx 6 q (WE.drop 4 (env':=[(1, .n at1),(2, .d (.pc (R38 t0))),(5, .pt 0 0),(6, .fn (.func 105) [] [.pt 0 0]),(7, .pt 1 0),(9, .pt 3 0),(71, .l eA f.alts),(72, .n (List.length f.alts:Int)),(73, .n (IntKind.i64.wrap (I+1)))]) Sb q Kv (Nat.zero_le _) (Fn3 h)))))
 exact Rcx 4 q (En2 h)
 rintro A st1 ⟨y,w,h,hsub,hst⟩
 subst a1
 dsimp only at h
 refine WC.sub hsub (WC.weak hst ?_)
 refine Rcl 7 q ?_
 obtain⟨a9,a',h⟩:=ah h
 obtain⟨bb,bk,h⟩:=ah h
 refine WL.inl (us:=[.n f.else_, .d (D.b (decide (f.else_≥0))), .pt 0 0]) (λrv st'=>(a9 ()=some r∧Le rv (.tu [])∧SLe st' [.row 96 [.os 2 (w+1)], .row 45 [.d (D.i .u8 e.op), .n e.d, .n e.a, .n e.b, .n e.n, .n e.m, .n e.to], .os 3 1 (w+1) (eM E3 (y++ [f.else_])), .row 155 [.l eA f.alts, .n f.obj, .n f.else_], .os 3 1 0 (eM E3 [f.else_])])∨(bb ()=some r∧Le rv (.tu [])∧SLe st' [.row 96 [.os 2 w], .row 45 [.d (D.i .u8 e.op), .n e.d, .n e.a, .n e.b, .n e.n, .n e.m, .n e.to], .os 3 1 w (eM E3 y), .row 155 [.l eA f.alts, .n f.obj, .n f.else_]])) q q q q q ?_ (Zw q) q q ?_
 refine cI func105 λ_ _ _ _=>?_
 refine Rcc 5 q (Ci h q (λh=>?_) λh=>?_)
 refine Rcl 3 q (WL.s ((NewOs.b (aJ l96 z3 q dC dC q q q dC)).does) (Zw q) q q ?_)
 replace h:=av h
 obtain⟨bo,h⟩:=h
 exact WL.s (bR E3 y [f.else_] l96 z3 q dC q q q q (Src.own q) (λ_=>q) (λ_=>q) bo) (Zw q) q q (WL.s0 (ct q q q (dc q) s96 q) (Zw q) q (Rlx 1 q (cG (af (bT q) (.inl ⟨h,Zl,⟨Zp,Zp,Zf,Zp,Zf,Zt⟩⟩)))))
 exact Rcx 1 q (cG (af (bT q) (.inr (⟨h,Zl,⟨Zp,Zp,Zf,Zp,Zt⟩⟩))))
 rintro rv st1 (⟨h,hr,hst⟩|⟨h,hr,hst⟩)
 subst a'
 dsimp only at h
 exact WL.cast 88 q hr (WL.weak hst (WL.nil (Rxx 1 q (WE.drop 3 (env':=[(1, .n at1),(2, .d (.pc (R38 t0))),(5, .pt 0 0),(6, .fn (.func 105) [] [.pt 0 0]),(7, .pt 1 0)]) Sb q Kv (Nat.zero_le _) (En2 h)))))
 subst bk
 dsimp only at h
 exact WL.cast 88 q hr (WL.weak hst (WL.nil (Rxx 1 q (WE.drop 3 (env':=[(1, .n at1),(2, .d (.pc (R38 t0))),(5, .pt 0 0),(6, .fn (.func 105) [] [.pt 0 0]),(7, .pt 1 0)]) Sb q Kv (Nat.zero_le _) (En2 h)))))
 refine Rcc 6 q (Ci h q (λh=>?_) λh=>?_)
 refine Rcl 4 q ?_
 obtain⟨G,bs,h⟩:=aa h
 refine wF Z4 (f106_c bs) Lw Z3 (Rl 2 q ?_)
 obtain⟨b0,b1,h⟩:=ah h
 obtain⟨b2,b3,h⟩:=ah h
 refine WL.inl (us:=[.n G.1, .d (D.b G.2), .pt 0 0]) (λrv st'=>(b0 ()=some r∧Le rv (.tu [])∧SLe st' [.row 96 [.os 2 (j+1)], .row 45 [.d (D.i .u8 e.op), .n e.d, .n e.a, .n e.b, .n e.n, .n e.m, .n e.to], .os 3 1 (j+1) (eM E3 (g++ [G.1])), .os 3 1 0 (eM E3 [G.1])])∨(b2 ()=some r∧Le rv (.tu [])∧SLe st' [.row 96 [.os 2 j], .row 45 [.d (D.i .u8 e.op), .n e.d, .n e.a, .n e.b, .n e.n, .n e.m, .n e.to], .os 3 1 j (eM E3 g)])) q q q q q ?_ (Zw q) q q ?_
 refine cI func105 λ_ _ _ _=>?_
 refine Rcc 5 q (Ci h q (λh=>?_) λh=>?_)
 refine Rcl 3 q (WL.s ((NewOs.b (aJ l96 z3 q dC dC q q q dC)).does) (Zw q) q q ?_)
 replace h:=av h
 obtain⟨b4,h⟩:=h
 exact WL.s (bR E3 g [G.1] l96 z3 q dC q q q q (Src.own q) (λ_=>q) (λ_=>q) b4) (Zw q) q q (WL.s0 (ct q q q (dc q) s96 q) (Zw q) q (Rlx 1 q (cG (af (bT q) (.inl ⟨h,Zl,⟨Zp,Zp,Zf,Zf,Zt⟩⟩)))))
 exact Rcx 1 q (cG (af (bT q) (.inr (⟨h,Zl,⟨Zp,Zp,Zf,Zt⟩⟩))))
 rintro rv st1 (⟨h,hr,hst⟩|⟨h,hr,hst⟩)
 subst b1
 dsimp only at h
 exact WL.cast 97 q hr (WL.weak hst (WL.nil (Rxx 1 q (WE.drop 3 (env':=[(1, .n at1),(2, .d (.pc (R38 t0))),(5, .pt 0 0),(6, .fn (.func 105) [] [.pt 0 0]),(7, .pt 1 0)]) Sb q Kv (Nat.zero_le _) (En2 h)))))
 subst b3
 dsimp only at h
 exact WL.cast 97 q hr (WL.weak hst (WL.nil (Rxx 1 q (En2 h))))
 exact Rcx 2 q (En2 h)
 rintro A st1 ⟨x,t,h,hsub,hst⟩
 subst W
 dsimp only at h
 refine WC.sub hsub (WC.weak hst ?_)
 replace h:=ah h
 obtain⟨b5,b6,h⟩:=h
 refine cH (λenv' st'=>∃(J:lI),∃(K:Nat),b5 J=some r∧Sub [(5, .pt 0 0)] env'∧SLe st' [.row 96 [.os 2 K], .row 45 [.d (D.i .u8 e.op), .n e.d, .n e.a, .n e.b, .n e.n, .n e.m, .n e.to], .os 3 1 K (eM E3 J)]) ?_ ?_
 refine Rcl 4 q (wF Z4 (f107_c) Lw Z3 (Rlc 2 q (Ci h q (λh=>?_) λh=>?_)))
 refine Rcl 4 q ?_
 obtain⟨H,b7,h⟩:=aa h
 refine wF Z4 (f106_c b7) Lw Z3 (Rl 2 q ?_)
 obtain⟨b8,b9,h⟩:=ah h
 obtain⟨b',ca,h⟩:=ah h
 refine WL.inl (us:=[.n H.1, .d (D.b H.2), .pt 0 0]) (λrv st'=>(b8 ()=some r∧Le rv (.tu [])∧SLe st' [.row 96 [.os 2 (t+1)], .row 45 [.d (D.i .u8 e.op), .n e.d, .n e.a, .n e.b, .n e.n, .n e.m, .n e.to], .os 3 1 (t+1) (eM E3 (x++ [H.1])), .os 3 1 0 (eM E3 [H.1])])∨(b' ()=some r∧Le rv (.tu [])∧SLe st' [.row 96 [.os 2 t], .row 45 [.d (D.i .u8 e.op), .n e.d, .n e.a, .n e.b, .n e.n, .n e.m, .n e.to], .os 3 1 t (eM E3 x)])) q q q q q ?_ (Zw q) q q ?_
 refine cI func105 λ_ _ _ _=>?_
 refine Rcc 5 q (Ci h q (λh=>?_) λh=>?_)
 refine Rcl 3 q (WL.s ((NewOs.b (aJ l96 z3 q dC dC q q q dC)).does) (Zw q) q q ?_)
 replace h:=av h
 obtain⟨cb,h⟩:=h
 exact WL.s (bR E3 x [H.1] l96 z3 q dC q q q q (Src.own q) (λ_=>q) (λ_=>q) cb) (Zw q) q q (WL.s0 (ct q q q (dc q) s96 q) (Zw q) q (Rlx 1 q (cG (af (bT q) (.inl ⟨h,Zl,⟨Zp,Zp,Zf,Zf,Zt⟩⟩)))))
 exact Rcx 1 q (cG (af (bT q) (.inr (⟨h,Zl,⟨Zp,Zp,Zf,Zt⟩⟩))))
 rintro rv st1 (⟨h,hr,hst⟩|⟨h,hr,hst⟩)
 subst b9
 dsimp only at h
 exact WL.cast 107 q hr (WL.weak hst (WL.nil (WE.drop 3 (env':=[(5, .pt 0 0)]) Sb q Kv (Nat.zero_le _) (En2 h))))
 subst ca
 dsimp only at h
 exact WL.cast 107 q hr (WL.weak hst (WL.nil (En2 h)))
 exact Rcx 1 q (En2 h)
 rintro A st1 ⟨J,K,h,hsub,hst⟩
 subst b6
 dsimp only at h
 refine WC.sub hsub (WC.weak hst ?_)
 refine Rcl 3 q ?_
 obtain⟨ci,cc,h⟩:=aa h
 refine jw [2] q q q q (f108_c _ cc) Lw q dC (Ro q) ⟨q,Zt⟩ Kv q (λ_=>Kv) (λ_=>(Ro q)) (Zw q) q q (λcj=>?_)
 refine Rll 5 q ?_
 obtain⟨cl,cd,h⟩:=aa h
 refine jw [2] q q q q (f109_c _ cd) Lw q dC (Ro q) ⟨q,Zt⟩ Kv q (λ_=>q) (λ_=>(Re q)) (Zw q) q q (λcn=>?_)
 exact Rlx 4 q (FA h)

theorem f32_c{t0:ao}{at1:Int}{r:lI}(h:f32 t0 at1=some r):Pu prog 32 [.ag (R38 t0), .i .i64 at1] (.sl (List.map E3 r)):=by
 unfold f32 at h
 refine fI func32 λ_ _=>?_
 refine Rcl 2 q (Bd q q (Zs _) q (Rll 7 q ?_))
 obtain⟨f,a,h⟩:=aa h
 refine wF Z4 (f37_c a) Lw Z3 (Rl 2 q ?_)
 refine OG 3 8 11 3 3 ?_
 refine Rl 1 q ?_
 apply WL.or 6 (t:=12) (d:=18)
 exact q
 intro g
 exact Rl 3 q (Zy (ab E45 t0.insns e23 q q Zl) q q q (Rl 2 q (WL.nil ⟨q,[_,_,_,_,_,_],q,q,q⟩)))
 exact Rn 6 6
 refine Rlc 2 q (Ci h q (λh=>Rcx 7 q (FA h)) λh=>?_)
 refine Rcl 6 q ?_
 obtain⟨j,e,h⟩:=aa h
 exact wF Z4 (f65_c e) Lw Z3 (Rlx 4 q (FA h))

theorem f33_c{x0:ak}{i1:Int}:Pu prog 33 [.ag (R45 x0), .i .i64 i1] (.b (f33 x0 i1)):=by
 generalize h:f33 x0 i1=r
 unfold f33 at h
 refine fI func33 λ_ _=>?_
 refine Rcl 2 q (Bd q q (Zs _) q (Rlc 11 q (Jn1 (λa=> [(1, .n i1),(2, .d (.pc (R45 x0))),(7, .d (D.b a))]) (λ_=> []) h (λ_ h=>?_) λa h=>?_)))
 refine Rcc 6 q (Ci h q (λh=>Rcx 1 q (En1 h)) λh=>?_)
 refine Rcc 6 q (Ci h q (λh=>Rcx 1 q (En1 h)) λh=>?_)
 refine Rcc 6 q (Ci h q (λh=>Rcx 1 q (En1 h)) λh=>?_)
 refine Rcc 6 q (Ci h q (λh=>Rcx 1 q (En1 h)) λh=>?_)
 refine Rcc 6 q (Ci h q (λh=>Rcx 1 q (En1 h)) λh=>?_)
 refine Rcc 6 q (Ci h q (λh=>Rcx 1 q (En1 h)) λh=>?_)
 refine Rcc 6 q (Ci h q (λh=>Rcx 1 q (En1 h)) λh=>?_)
 refine Rcc 6 q (Ci h q (λh=>Rcx 1 q (En1 h)) λh=>?_)
 refine Rcc 6 q (Ci h q (λh=>Rcx 1 q (En1 h)) λh=>?_)
 refine Rcc 6 q (Ci h q (λh=>Rcx 1 q (En1 h)) λh=>?_)
 refine Rcc 6 q (Ci h q (λh=>Rcx 1 q (En1 h)) λh=>?_)
 refine Rcc 6 q (Ci h q (λh=>Rcx 1 q (En1 h)) λh=>?_)
 exact Rcc 6 q (Ci h q (λh=>Rcx 1 q (En1 h)) λh=>Rcx 4 q (En1 h))
 refine Ci h q (λh=>?_) (λh=>?_)
 exact Rcx 8 q (FB h)
 exact Rcx 13 q (FB h)

theorem f8_c(t0:ao)(W:lI)(r2:bj)(p:Int){r:Bool}(h:f8 t0 W r2 p=some r):Pu prog 8 [.ag (R38 t0), .sl (List.map E2 W), .ag (R41 r2), .i .u8 p] (.b r):=by
 unfold f8 at h
 refine fI func8 λ_ _=>?_
 refine Rcl 2 q (Bd q q (Zs _) q (Bx q q q (Rll 7 q ?_)))
 obtain⟨h5,f7,h⟩:=aa h
 refine wF Z4 (f12_c f7) Lw Z3 (Rl 1 q ?_)
 apply WL.or 4 (t:=27) (d:=31)
 exact q
 intro h6
 exact Rl 1 q (Zy (ab E2 W e42 q q Zl) q q q (Rl 2 q (WL.nil ⟨q,[_,_,_,_],q,q,q⟩)))
 exact Rn 4 4
 refine Rl 1 q ?_
 refine OG 3 32 35 3 3 ?_
 refine Rlc 2 q (Ci h q (λh=>?_) λh=>?_)
 refine Rcl 2 q ?_
 obtain⟨h7,gl,h⟩:=aa h
 exact WL.fn q q q q (f9_c gl) Zt (Zw q) q q (Rlx 5 q (FA h))
 refine Rcl 6 q ?_
 obtain⟨gm,h8,h⟩:=aa h
 rcases iS gm with X|X
 replace h:=dP h X
 refine eY ep (eY ep (eY ep (eY ep ?_)))
 obtain⟨k,gs,h⟩:=aa h
 refine WL.wing [1,2,3,4] q q q q (f10_c gs (vo:=0) (vf:=0) (vu:=0)) Lw q dC (Re (Re (Re (Re q)))) ⟨q,q,q,q,Zt⟩ q q (Zw q) q q (λr' new hS=>?_)
 obtain⟨rfl,rfl⟩:=hS
 refine⟨_,_,q,(Re (Rg (Rf (Ro q)))),q,Kv,?_⟩
 refine St q (Rl 5 q (Zn (Rcc 7 q (Ci h q (λh=>?_) λh=>?_))))
 refine Rcl 2 q ?_
 obtain⟨h9,gx,h⟩:=aa h
 exact WL.fn q q q q (f9_c gx) Zt (Zw q) q q (Rlx 5 q (FA h))
 refine Rcc 2 q ?_
 replace h:=ah h
 obtain⟨c5,g0,h⟩:=h
 refine cH (λenv' st'=>∃(R:lL),∃(Y:Nat),∃(Z:lI),∃(ad:Nat),∃(ax:Nat→Int),∃(a0:Int),∃(a1:Int),∃(a6:Int),∃(a7:lI),c5 R Z ax a0 a1 a6 a7=some r∧Sub [] env'∧SLe st' [.row 41 (rg ax a0 a1 a6), .row 90 (mR k.2.1 k.2.2.1 k.2.2.2.1 k.2.2.2.2.1 2 0 a7 4 ad),oS 0 3 Y R,fS Y R,uS ad Z]) ?_ ?_
 refine Rcc 6 q (db (λn env' st'=>∃(y:Int),∃(S:lL),∃(a8:Nat),∃(a9:lI),∃(a':Nat),∃(x:Nat→Int),∃(C:Int),∃(E:Int),∃(F:Int),∃(bb:lI),f8_l1 t0 p k c5 n y S a9 x C E F bb=some r∧Sub [(3, .d (D.i .u8 p)),(4, .d (.pc (R38 t0))),(6, .pt 0 0),(9, .pt 1 0),(11, .n y)] env'∧SLe st' [.row 41 (rg x C E F), .row 90 (mR k.2.1 k.2.2.1 k.2.2.2.1 k.2.2.2.2.1 2 0 bb 4 a'),oS 0 3 a8 S,fS a8 S,uS a' a9]) (λn=>n) 9223372036854775808 ⟨0,k.2.2.2.2.2.2.1,_,k.2.2.2.2.2.2.2,_,r2.r,r2.pc,r2.exc,r2.defer,k.2.2.2.2.2.1,h,(Sx q (Sx q (Sx q (Sx q (Sx q (Sub.nil _)))))),⟨Zp,Zp,Zf,Zf,Zf,Zt⟩⟩ ?_)
 rintro n c6 st1 ⟨y,S,a8,a9,a',x,C,E,F,bb,h,hsub,hst⟩
 rcases n with _|n
 rw[f8_l1] at h;cases h
 rw[f8_l1] at h
 refine WC.sub hsub (WC.weak hst ?_)
 refine Rcc 9 q (Ci h q (λh=>?_) λh=>?_)
 refine Rcc 2 q ?_
 replace h:=ah h
 obtain⟨g1,g2,h⟩:=h
 refine cH (λenv' st'=>∃(T:lL),∃(bk:Nat),∃(bo:lI),∃(bs:Nat),∃(b0:Nat→Int),∃(b1:Int),∃(b2:Int),∃(b3:Int),∃(b4:lI),∃(b5:Nat→Int),∃(b6:Int),∃(b7:Int),∃(b8:Int),∃(b9:Int),∃(b':Int),∃(ca:Int),∃(cb:Int),∃(cc:Int),∃(cd:Int),∃(ci:Int),g1 T bo b0 b1 b2 b3 b4 b5 b6 b7 b8 b9 b' ca cb cc cd ci=some r∧Sub [(3, .d (D.i .u8 p)),(4, .d (.pc (R38 t0))),(6, .pt 0 0),(9, .pt 1 0),(11, .n y)] env'∧SLe st' [.row 41 (rg b0 b1 b2 b3), .row 90 (mR k.2.1 k.2.2.1 k.2.2.2.1 k.2.2.2.2.1 2 0 b4 4 bs),oS 0 3 bk T,fS bk T,uS bs bo, .row 41 (rg b5 b6 b7 b8), .row 45 [.d (D.i .u8 b9), .n b', .n ca, .n cb, .n cc, .n cd, .n ci]]) ?_ ?_
 refine Rcl 4 q ?_
 obtain⟨h',g3,h⟩:=aa h
 refine WL.wing [1,2,3,4] q q q q (f28_c g3) Lw q dC (Re (Rg (Rf (Ro q)))) ⟨q,q,q,q,Zt⟩ Kv q (Zw q) q q (λr' new hS=>?_)
 obtain⟨rfl,rfl⟩:=hS
 refine⟨_,_,q,(Re (Rg (Rf (Ro q)))),q,Kv,?_⟩
 refine St q (Rll 7 q ?_)
 obtain⟨g,g4,h⟩:=aa h
 refine WL.wing [1,2,3,4] q q q q (f11_c g4) ⟨Zl,(aw (Zs _)),Zt⟩ q dC (Re (Rg (Rf (Ro q)))) ⟨q,q,q,q,Zt⟩ Kv q (Zw q) q q (λr' new hS=>?_)
 obtain⟨i2_307,i3_307,rfl,rfl⟩:=hS
 refine⟨_,_,q,(Re (Rg (Rf (Ro q)))),q,Kv,?_⟩
 refine St q (Rl 4 q (Al z41 q (sS Z6 s41 Z2 (St q (Rll 7 q ?_)))))
 obtain⟨G,g5,h⟩:=aa h
 refine WL.wing [1,2,3,4] q q q q (f28_c g5) Lw q dC (Re (Rg (Rf (Ro q)))) ⟨q,q,q,q,Zt⟩ Kv q (Zw q) q q (λr' new hS=>?_)
 obtain⟨rfl,rfl⟩:=hS
 refine⟨_,_,q,(Re (Rg (Rf (Ro q)))),q,Kv,?_⟩
 refine St q (Rlc 10 q (Ci h q (λh=>?_) λh=>?_))
 refine Rcl 3 q (Zq (aB p41 z41 q q) q (Zq (iB (xs:=(V41 g.1)) (ys:=z19) q41 q (aw (Zs _)) q (aw (Zs _)) q q q) q (Rl 1 q ?_)))
 apply WL.and 4 (t:=68) (d:=72)
 exact q
 intro g6
 exact Rl 1 q (Zy (ab E58 g.2.1 e50 q q Zl) q q q (Rl 2 q (WL.nil ⟨q,[_,_,_,_],q,q,q⟩)))
 exact Rn 4 4
 refine Rl 1 q ?_
 obtain⟨g7,g8,h⟩:=aa h
 refine Gg 4 73 77 g7 g8 (λh=>?_) (λh=>?_) ?_
 refine Rl 2 q ?_
 obtain⟨ih,g9,h⟩:=aa h
 exact WL.fn q q q q (f29_c g9) Lw (bu q q q) q q (On 1 4 h)
 exact On 4 4 h
 refine Rl 1 q ?_
 obtain⟨g',ha,h⟩:=aa h
 refine Gg 2 78 80 g' ha (λh=>?_) (λh=>?_) ?_
 obtain⟨ix,hb,h⟩:=aa h
 exact WL.fn q q q q (f9_c hb) Zt (bu q q q) q q (On 1 2 h)
 exact On 2 2 h
 exact Rlx 10 q (FA h)
 refine Rcl 8 q (wF Z4 (f30_c) Lw Z3 (Rl 2 q ?_))
 apply WL.or 5 (t:=86) (d:=91)
 exact q
 intro hc
 exact Rl 2 q (WL.fn q q q q (f31_c) ⟨Zl,(aw (Zs _)),Zt⟩ (bu q q q) q q (Rl 2 q (WL.nil ⟨q,[_,_,_,_,_],q,q,q⟩)))
 exact Rn 5 5
 refine Rl 1 q ?_
 apply WL.or 7 (t:=92) (d:=99)
 exact q
 intro hd
 exact Rl 1 q (Zy (ab E42 G e62 q q Zl) q q q (Rl 2 q (Zy (ab cL t0.objs e33 q q Zl) q q q (Rl 2 q (WL.nil ⟨q,[_,_,_,_,_,_,_],q,q,q⟩)))))
 exact Rn 7 7
 refine Rlc 2 q (Ci h q (λh=>Rcx 12 q (FA h)) λh=>?_)
 refine Rcl 8 q (Ix h e23 dE q Zl q q λe _ h=>(Rl 1 q (Al z45 q (sS Z6 s45 Z2 (St q (Rll 7 q ?_))))))
 obtain⟨cj,he,h⟩:=aa h
 refine wF Z4 (f32_c he) Lw Z3 (Rlc 8 q (Jn1 (λc7=> [(3, .d (D.i .u8 p)),(4, .d (.pc (R38 t0))),(6, .pt 0 0),(9, .pt 1 0),(11, .n y),(13, .pt 5 0),(14, .l E58 g.2.1),(16, .l E42 G),(17, .pt 6 0),(19, .d (D.b c7))]) (λ_=> [.row 41 (rg x C E F), .row 90 (mR k.2.1 k.2.2.1 k.2.2.2.1 k.2.2.2.2.1 2 0 g.2.2.2.1 4 i3_307), .os 42 1 0 (bg 3 i2_307 (List.length g.2.2.2.2.1)), .fam 2 1 i2_307 (bc E2 g.2.2.2.2.1), .os 2 1 i3_307 (eM E2 g.2.2.2.2.2), .row 41 (rG g.1), .row 45 [.d (D.i .u8 e.op), .n e.d, .n e.a, .n e.b, .n e.n, .n e.m, .n e.to]]) h (λhf h=>?_) λc7 h=>?_))
 refine Rcc 6 q (Ln2 (λc' dd=> [(3, .d (D.i .u8 p)),(4, .d (.pc (R38 t0))),(6, .pt 0 0),(9, .pt 1 0),(11, .n y),(13, .pt 5 0),(14, .l E58 g.2.1),(16, .l E42 G),(17, .pt 6 0),(18, .l E3 cj),(19, .d (D.b c')),(20, .n dd)]) (λ_ _=> [.row 41 (rg x C E F), .row 90 (mR k.2.1 k.2.2.1 k.2.2.2.1 k.2.2.2.2.1 2 0 g.2.2.2.1 4 i3_307), .os 42 1 0 (bg 3 i2_307 (List.length g.2.2.2.2.1)), .fam 2 1 i2_307 (bc E2 g.2.2.2.2.1), .os 2 1 i3_307 (eM E2 g.2.2.2.2.2), .row 41 (rG g.1), .row 45 [.d (D.i .u8 e.op), .n e.d, .n e.a, .n e.b, .n e.n, .n e.m, .n e.to]]) (f8_l2 g cj hf) h (λ_ _ h=>by rw[f8_l2] at h;cases h) λna c' dd h=>?_)
 rw[f8_l2] at h
 refine Rcl 5 q (Zq (ab E3 cj e96 q q Zl) q (Rlc 3 q (Ci h q (λh=>?_) λh=>?_)))
 refine Rcc 4 q (am kR kR (Rq 2 q ?_))
 obtain⟨hg,df,h⟩:=aa h
 apply WQ.grp 8 (t:=117) (d:=125) (z:=hg)
 exact q
 intro L
 have h:=dP df L
 refine Rq 8 q ?_
 obtain rfl:=Oi h
 exact WQ.nil ⟨[_,_,_,_,_,_,_,_],q,q,q⟩
 intro L
 have h:=dQ df L
 refine Rq 2 q ?_
 obtain⟨i0,ds,h⟩:=aa h
 refine WQ.qy (aj e96 q Zl q (ae ds) (aR iy ds) q) q q q (Rq 5 q ?_)
 obtain rfl:=Oi h
 exact WQ.nil ⟨[_,_,_,_,_,_,_,_],q,q,q⟩
 exact Rq 1 q (WQ.nil (Rxx 7 q (Fn2 h)))
 exact Rcx 4 q (En1 h)
 refine Rcc 7 q (Ci h q (λh=>Rcx 12 q (FA h)) λh=>?_)
 refine Rcl 5 q (Zq (ab E58 g.2.1 e50 q q Zl) q (Rl 2 q ?_))
 obtain⟨hh,hi,h⟩:=aa h
 refine Gg 6 131 137 hh hi (λh=>?_) (λh=>?_) ?_
 refine Rl 1 q ?_
 obtain⟨i1,dA,h⟩:=aa h
 exact Zy (aj e50 q Zl q (ae dA) (aR fy dA) q) q q q (On 4 6 h)
 exact On 6 6 h
 refine Rl 1 q ?_
 obtain⟨U,hj,h⟩:=aa h
 refine Gg 12 138 150 U hj (λh=>?_) (λh=>?_) ?_
 exact On 12 12 h
 refine Rl 4 q ?_
 obtain⟨hk,hl,h⟩:=aa h
 refine Gg 7 142 149 hk hl (λh=>?_) (λh=>?_) ?_
 refine Rl 3 q ?_
 replace h:=av h
 obtain⟨cl,h⟩:=h
 exact Zy (ar dG q q (bx cl) (bw cl)) q q q (Zy (bJ (off:=0) (n:=16) (λj=> .n (x j)) q q a2 q cl) q q q (On 2 7 h))
 exact On 7 7 h
 exact On 1 6 h
 refine Rlc 3 q (Jn0 [(3, .d (D.i .u8 p)),(4, .d (.pc (R38 t0))),(6, .pt 0 0),(9, .pt 1 0),(11, .n y),(13, .pt 5 0),(16, .l E42 G),(21, .d (D.b U))] [.row 41 (rg x C E F), .row 90 (mR k.2.1 k.2.2.1 k.2.2.2.1 k.2.2.2.2.1 2 0 g.2.2.2.1 4 i3_307), .os 42 1 0 (bg 3 i2_307 (List.length g.2.2.2.2.1)), .fam 2 1 i2_307 (bc E2 g.2.2.2.2.1), .os 2 1 i3_307 (eM E2 g.2.2.2.2.2), .row 41 (rG g.1), .row 45 [.d (D.i .u8 e.op), .n e.d, .n e.a, .n e.b, .n e.n, .n e.m, .n e.to]] h (λhm h=>?_) λh=>?_)
 refine Rcc 6 q (Ln1 (λdS=> [(3, .d (D.i .u8 p)),(4, .d (.pc (R38 t0))),(6, .pt 0 0),(9, .pt 1 0),(11, .n y),(13, .pt 5 0),(16, .l E42 G),(17, .pt 6 0),(21, .d (D.b U)),(22, .n dS)]) (λ_=> [.row 41 (rg x C E F), .row 90 (mR k.2.1 k.2.2.1 k.2.2.2.1 k.2.2.2.2.1 2 0 g.2.2.2.1 4 i3_307), .os 42 1 0 (bg 3 i2_307 (List.length g.2.2.2.2.1)), .fam 2 1 i2_307 (bc E2 g.2.2.2.2.1), .os 2 1 i3_307 (eM E2 g.2.2.2.2.2), .row 41 (rG g.1), .row 45 [.d (D.i .u8 e.op), .n e.d, .n e.a, .n e.b, .n e.n, .n e.m, .n e.to]]) (f8_l3 x g e U hm) h (λ_ h=>by rw[f8_l3] at h;cases h) λna dS h=>?_)
 rw[f8_l3] at h
 refine Rcc 7 q (Ci h q (λh=>?_) λh=>?_)
 refine Rcc 5 q (am kR kR (Rq 2 q ?_))
 obtain⟨hn,d0,h⟩:=aa h
 apply WQ.grp 6 (t:=156) (d:=162) (z:=hn)
 exact q
 intro M
 have h:=dP d0 M
 refine Rq 2 q ?_
 replace h:=av h
 obtain⟨cn,h⟩:=h
 refine WQ.qy (ar dG q q (bx cn) (bw cn)) q q q (WQ.qy (bJ (off:=0) (n:=16) (λj=> .n (g.1.r j)) q q a2 q cn) q q q (Rq 2 q ?_))
 obtain rfl:=Oi h
 exact WQ.nil ⟨[_,_,_,_,_,_],q,q,q⟩
 intro M
 have h:=dQ d0 M
 refine Rq 6 q ?_
 obtain rfl:=Oi h
 exact WQ.nil ⟨[_,_,_,_,_,_],q,q,q⟩
 refine Rq 1 q ?_
 obtain⟨ho,d1,h⟩:=aa h
 apply WQ.grp 20 (t:=163) (d:=183) (z:=ho)
 exact q
 intro N
 have h:=dP d1 N
 refine Rq 20 q ?_
 obtain rfl:=Oi h
 exact WQ.nil ⟨[_,_,_,_,_,_,_,_,_,_,_,_,_,_,_,_,_,_,_,_],q,q,q⟩
 intro N
 have h:=dQ d1 N
 refine Rq 3 q ?_
 apply WQ.and 5 (t:=166) (d:=171)
 exact q
 intro hp
 exact Rq 2 q (WQ.q (YieldsQ.fn q q q q q (f33_c) ⟨(aw (Zs _)),Zl,Zt⟩) (bu q q q) q q (Rq 2 q (WQ.nil ⟨[_,_,_,_,_],q,q,q⟩)))
 exact Rq 5 q (WQ.nil ⟨[_,_,_,_,_],q,q,q⟩)
 refine Rq 1 q ?_
 obtain⟨hq,d2,h⟩:=aa h
 apply WQ.grp 10 (t:=172) (d:=182) (z:=hq)
 exact q
 intro O
 have h:=dP d2 O
 refine Rq 2 q ?_
 replace h:=av h
 obtain⟨cp,h⟩:=h
 refine WQ.qy (ar dG q q (bx cp) (bw cp)) q q q (WQ.qy (bJ (off:=0) (n:=16) (λj=> .n (g.1.r j)) q q a2 q cp) q q q (Rq 2 q ?_))
 replace h:=av h
 obtain⟨cx,h⟩:=h
 refine WQ.qy (ar dG q q (bx cx) (bw cx)) q q q (WQ.qy (bJ (off:=0) (n:=16) (λj=> .n (x j)) q q a2 q cx) q q q (Rq 2 q ?_))
 obtain rfl:=Oi h
 exact WQ.nil ⟨[_,_,_,_,_,_,_,_,_,_],q,q,q⟩
 intro O
 have h:=dQ d2 O
 refine Rq 10 q ?_
 obtain rfl:=Oi h
 exact WQ.nil ⟨[_,_,_,_,_,_,_,_,_,_],q,q,q⟩
 refine Rq 1 q ?_
 obtain rfl:=Oi h
 exact WQ.nil ⟨[_,_,_,_,_,_,_],q,q,q⟩
 refine WQ.nil (Rxc 1 q (Ci h q (λh=>?_) λh=>?_))
 exact Rcx 16 q (FA h)
 exact Rcx 8 q (Fn1 h)
 exact Rcx 4 q (En0 h)
 refine Rcl 6 q ?_
 refine AG 6 186 192 6 6 ?_
 refine Rl 1 q ?_
 apply WL.or 7 (t:=193) (d:=200)
 exact q
 intro hr
 refine Rl 2 q ?_
 refine AG 4 195 199 4 4 ?_
 exact Rn 1 4
 exact Rn 7 7
 refine Rlc 2 q (Ci h q (λh=>Rcx 12 q (FA h)) λh=>?_)
 refine Rcc 2 q (Jn0 [(3, .d (D.i .u8 p)),(4, .d (.pc (R38 t0))),(6, .pt 0 0),(9, .pt 1 0),(11, .n y),(13, .pt 5 0)] [.row 41 (rg x C E F), .row 90 (mR k.2.1 k.2.2.1 k.2.2.2.1 k.2.2.2.2.1 2 0 g.2.2.2.1 4 i3_307), .os 42 1 0 (bg 3 i2_307 (List.length g.2.2.2.2.1)), .fam 2 1 i2_307 (bc E2 g.2.2.2.2.1), .os 2 1 i3_307 (eM E2 g.2.2.2.2.2), .row 41 (rG g.1), .row 45 [.d (D.i .u8 e.op), .n e.d, .n e.a, .n e.b, .n e.n, .n e.m, .n e.to]] h (λhs h=>?_) λh=>?_)
 refine Rcc 6 q (Ln1 (λP=> [(3, .d (D.i .u8 p)),(4, .d (.pc (R38 t0))),(6, .pt 0 0),(9, .pt 1 0),(11, .n y),(13, .pt 5 0),(16, .l E42 G),(23, .n P)]) (λ_=> [.row 41 (rg x C E F), .row 90 (mR k.2.1 k.2.2.1 k.2.2.2.1 k.2.2.2.2.1 2 0 g.2.2.2.1 4 i3_307), .os 42 1 0 (bg 3 i2_307 (List.length g.2.2.2.2.1)), .fam 2 1 i2_307 (bc E2 g.2.2.2.2.1), .os 2 1 i3_307 (eM E2 g.2.2.2.2.2), .row 41 (rG g.1), .row 45 [.d (D.i .u8 e.op), .n e.d, .n e.a, .n e.b, .n e.n, .n e.m, .n e.to]]) (f8_l4 t0 G hs) h (λ_ h=>by rw[f8_l4] at h;cases h) λna P h=>?_)
 rw[f8_l4] at h
 refine Rcl 5 q (Zq (ab E42 G e62 q q Zl) q (Rlc 3 q (Ci h q (λh=>?_) λh=>?_)))
 refine Rcc 2 q (Jn0 [(3, .d (D.i .u8 p)),(4, .d (.pc (R38 t0))),(6, .pt 0 0),(9, .pt 1 0),(11, .n y),(13, .pt 5 0),(16, .l E42 G),(23, .n P)] [.row 41 (rg x C E F), .row 90 (mR k.2.1 k.2.2.1 k.2.2.2.1 k.2.2.2.2.1 2 0 g.2.2.2.1 4 i3_307), .os 42 1 0 (bg 3 i2_307 (List.length g.2.2.2.2.1)), .fam 2 1 i2_307 (bc E2 g.2.2.2.2.1), .os 2 1 i3_307 (eM E2 g.2.2.2.2.2), .row 41 (rG g.1), .row 45 [.d (D.i .u8 e.op), .n e.d, .n e.a, .n e.b, .n e.n, .n e.m, .n e.to]] h (λht h=>?_) λh=>?_)
 refine Rcc 7 q (Ln1 (λd3=> [(3, .d (D.i .u8 p)),(4, .d (.pc (R38 t0))),(6, .pt 0 0),(9, .pt 1 0),(11, .n y),(13, .pt 5 0),(16, .l E42 G),(23, .n P),(24, .n d3)]) (λ_=> [.row 41 (rg x C E F), .row 90 (mR k.2.1 k.2.2.1 k.2.2.2.1 k.2.2.2.2.1 2 0 g.2.2.2.1 4 i3_307), .os 42 1 0 (bg 3 i2_307 (List.length g.2.2.2.2.1)), .fam 2 1 i2_307 (bc E2 g.2.2.2.2.1), .os 2 1 i3_307 (eM E2 g.2.2.2.2.2), .row 41 (rG g.1), .row 45 [.d (D.i .u8 e.op), .n e.d, .n e.a, .n e.b, .n e.n, .n e.m, .n e.to]]) (f8_l5 t0 G P ht) h (λ_ h=>by rw[f8_l5] at h;cases h) λnb d3 h=>?_)
 rw[f8_l5] at h
 refine Rcl 6 q (Ix h e62 eP q Zl q q λhu _ h=>(Rl 1 q (Zq (ab E2 hu e42 q q Zl) q (Rlc 3 q (Ci h q (λh=>?_) λh=>?_)))))
 refine Rcc 5 q (am kR kR (Rq 3 q ?_))
 obtain⟨i2,d',h⟩:=aa h
 refine WQ.qn (aj e33 q Zl q (ae d') (aR cg d') q) q (Rq 3 q ?_)
 obtain⟨i3,ea,h⟩:=aa h
 refine WQ.qn (aj e62 q Zl q (ae ea) (aR eP ea) q) q (Rq 2 q ?_)
 obtain⟨i4,eb,h⟩:=aa h
 refine WQ.qn (aj e42 q Zl q (ae eb) (aR fH eb) q) q (Rq 1 q ?_)
 obtain⟨i5,hv,h⟩:=aa h
 refine WQ.q (YieldsQ.fn q q q q q (f34_c hv) Lw) (Zw q) q q (Rq 1 q (WQ.nil (Rxc 1 q (Ci h q (λh=>?_) λh=>?_))))
 exact Rcx 20 q (FA h)
 exact Rcx 8 q (Fn1 h)
 exact Rcx 5 q (En0 h)
 exact Rcx 5 q (Fn1 h)
 exact Rcx 4 q (En0 h)
 exact Rcl 2 q (sS Z6 s41 Z2 (St q (Rlx 2 q (cZ ⟨_,_,_,_,_,_,_,_,_,_,_,_,_,_,_,_,_,_,_,_,h,Sb,Tv⟩))))
 rintro c6 st1 ⟨T,bk,bo,bs,b0,b1,b2,b3,b4,b5,b6,b7,b8,b9,b',ca,cb,cc,cd,ci,h,hsub,hst⟩
 subst g2
 dsimp only at h
 refine WC.sub hsub (WC.weak hst ?_)
 exact Rcx 5 q (WE.drop 5 (env':=[(3, .d (D.i .u8 p)),(4, .d (.pc (R38 t0))),(6, .pt 0 0),(9, .pt 1 0),(11, .n (IntKind.i64.wrap (y+1)))]) Sb q Kv (Nat.zero_le _) (cZ ⟨_,⟨_,_,_,_,_,_,_,_,_,_,h,Sb,Tv⟩,Nat.lt_succ_self _⟩))
 exact Rcx 4 q (cZ ⟨_,_,_,_,_,_,_,_,_,h,Sb,Tv⟩)
 rintro c6 st1 ⟨R,Y,Z,ad,ax,a0,a1,a6,a7,h,hsub,hst⟩
 subst g0
 dsimp only at h
 refine WC.sub hsub (WC.weak hst ?_)
 refine Rcl 2 q ?_
 obtain⟨i6,hw,h⟩:=aa h
 exact WL.fn q q q q (f9_c hw) Zt (Zw q) q q (Rlx 4 q (FA h))
 replace h:=dQ h X
 obtain⟨i7,hx,h⟩:=aa h
 refine wF Z4 (f10b_c hx) Lw Z3 (Rl 5 q (Zn (Rcc 7 q (Ci h q (λh=>?_) λh=>?_))))
 refine Rcl 2 q ?_
 obtain⟨i8,hy,h⟩:=aa h
 exact WL.fn q q q q (f9_c hy) Zt (Zw q) q q (Rlx 5 q (FA h))
 refine Rcc 2 q (Jn4 (λ_ _ _ _=> []) (λee ei el em=> [.row 41 (rg ee ei el em)]) h (λhz h=>?_) λee ei el em h=>?_)
 refine Rcc 6 q (Ln5 (λB _ _ _ _=> [(3, .d (D.i .u8 p)),(4, .d (.pc (R38 t0))),(6, .pt 0 0),(9, .d (.v (.pointer none))),(11, .n B)]) (λ_ A I J K=> [.row 41 (rg A I J K)]) (f8_l6 t0 p hz) h (λ_ _ _ _ _ h=>by rw[f8_l6] at h;cases h) λn B A I J K h=>?_)
 rw[f8_l6] at h
 refine Rcc 9 q (Ci h q (λh=>?_) λh=>?_)
 refine Rcc 2 q (Jn15 (λ_ _ _ _ _ _ _ _ _ _ _ _ _ _ _=> [(3, .d (D.i .u8 p)),(4, .d (.pc (R38 t0))),(6, .pt 0 0),(9, .d (.v (.pointer none))),(11, .n B)]) (λen er es et ew ex ey e0 e1 e2 e3 e4 e5 e6 e7=> [.row 41 (rg en er es et), .row 41 (rg ew ex ey e0), .row 45 [.d (D.i .u8 e1), .n e2, .n e3, .n e4, .n e5, .n e6, .n e7]]) h (λ_ h=>?_) λen er es et ew ex ey e0 e1 e2 e3 e4 e5 e6 e7 h=>?_)
 refine Rcl 4 q ?_
 obtain⟨i9,hA,h⟩:=aa h
 refine WL.wing [] q q q q (f28z_c hA) Lw q dC q Zt q q (Zw q) q q (λr' new hS=>?_)
 obtain⟨rfl,rfl⟩:=hS
 refine⟨_,_,q,q,q,q,?_⟩
 refine St q (Rll 7 q ?_)
 obtain⟨w,hB,h⟩:=aa h
 refine WL.wing [] q q q q (f11z_c hB) ⟨Zl,(aw (Zs _)),Zt⟩ q dC q Zt q q (Zw q) q q (λr' new hS=>?_)
 obtain⟨rfl,rfl⟩:=hS
 refine⟨_,_,q,q,q,q,?_⟩
 refine St q (Rl 4 q (Al z41 q (sS Z6 s41 Z2 (St q (Rll 7 q ?_)))))
 obtain⟨H,hC,h⟩:=aa h
 refine WL.wing [] q q q q (f28z_c hC) Lw q dC q Zt q q (Zw q) q q (λr' new hS=>?_)
 obtain⟨rfl,rfl⟩:=hS
 refine⟨_,_,q,q,q,q,?_⟩
 refine St q (Rlc 10 q (Ci h q (λh=>?_) λh=>?_))
 refine Rcl 3 q (Zq (aB p41 z41 q q) q (Zq (iB (xs:=(V41 w.1)) (ys:=z19) q41 q (aw (Zs _)) q (aw (Zs _)) q q q) q (Rl 1 q ?_)))
 apply WL.and 4 (t:=68) (d:=72)
 exact q
 intro g6
 exact Rl 1 q (Zy (ab E58 w.2.1 e50 q q Zl) q q q (Rl 2 q (WL.nil ⟨q,[_,_,_,_],q,q,q⟩)))
 exact Rn 4 4
 refine Rl 1 q ?_
 obtain⟨hD,hE,h⟩:=aa h
 refine Gg 4 73 77 hD hE (λh=>?_) (λh=>?_) ?_
 refine Rl 2 q ?_
 obtain⟨i',hF,h⟩:=aa h
 exact WL.fn q q q q (f29_c hF) Lw (bu q q q) q q (On 1 4 h)
 exact On 4 4 h
 refine Rl 1 q ?_
 obtain⟨hH,hI,h⟩:=aa h
 refine Gg 2 78 80 hH hI (λh=>?_) (λh=>?_) ?_
 obtain⟨js,hJ,h⟩:=aa h
 exact WL.fn q q q q (f9_c hJ) Zt (bu q q q) q q (On 1 2 h)
 exact On 2 2 h
 exact Rlx 10 q (FA h)
 refine Rcl 8 q (wF Z4 (f30_c) Lw Z3 (Rl 2 q ?_))
 apply WL.or 5 (t:=86) (d:=91)
 exact q
 intro hc
 exact Rl 2 q (WL.fn q q q q (f31_c) ⟨Zl,(aw (Zs _)),Zt⟩ (bu q q q) q q (Rl 2 q (WL.nil ⟨q,[_,_,_,_,_],q,q,q⟩)))
 exact Rn 5 5
 refine Rl 1 q ?_
 apply WL.or 7 (t:=92) (d:=99)
 exact q
 intro hd
 exact Rl 1 q (Zy (ab E42 H e62 q q Zl) q q q (Rl 2 q (Zy (ab cL t0.objs e33 q q Zl) q q q (Rl 2 q (WL.nil ⟨q,[_,_,_,_,_,_,_],q,q,q⟩)))))
 exact Rn 7 7
 refine Rlc 2 q (Ci h q (λh=>Rcx 12 q (FA h)) λh=>?_)
 refine Rcl 8 q (Ix h e23 dE q Zl q q λf _ h=>(Rl 1 q (Al z45 q (sS Z6 s45 Z2 (St q (Rll 7 q ?_))))))
 obtain⟨c0,hK,h⟩:=aa h
 refine wF Z4 (f32_c hK) Lw Z3 (Rlc 8 q (Jn1 (λe8=> [(3, .d (D.i .u8 p)),(4, .d (.pc (R38 t0))),(6, .pt 0 0),(9, .d (.v (.pointer none))),(11, .n B),(13, .pt 1 0),(14, .l E58 w.2.1),(16, .l E42 H),(17, .pt 2 0),(19, .d (D.b e8))]) (λ_=> [.row 41 (rg A I J K), .row 41 (rG w.1), .row 45 [.d (D.i .u8 f.op), .n f.d, .n f.a, .n f.b, .n f.n, .n f.m, .n f.to]]) h (λhL h=>?_) λe8 h=>?_))
 refine Rcc 6 q (Ln2 (λe' fo=> [(3, .d (D.i .u8 p)),(4, .d (.pc (R38 t0))),(6, .pt 0 0),(9, .d (.v (.pointer none))),(11, .n B),(13, .pt 1 0),(14, .l E58 w.2.1),(16, .l E42 H),(17, .pt 2 0),(18, .l E3 c0),(19, .d (D.b e')),(20, .n fo)]) (λ_ _=> [.row 41 (rg A I J K), .row 41 (rG w.1), .row 45 [.d (D.i .u8 f.op), .n f.d, .n f.a, .n f.b, .n f.n, .n f.m, .n f.to]]) (f8_l7 w c0 hL) h (λ_ _ h=>by rw[f8_l7] at h;cases h) λna e' fo h=>?_)
 rw[f8_l7] at h
 refine Rcl 5 q (Zq (ab E3 c0 e96 q q Zl) q (Rlc 3 q (Ci h q (λh=>?_) λh=>?_)))
 refine Rcc 4 q (am kR kR (Rq 2 q ?_))
 obtain⟨hM,fr,h⟩:=aa h
 apply WQ.grp 8 (t:=117) (d:=125) (z:=hM)
 exact q
 intro L
 have h:=dP fr L
 refine Rq 8 q ?_
 obtain rfl:=Oi h
 exact WQ.nil ⟨[_,_,_,_,_,_,_,_],q,q,q⟩
 intro L
 have h:=dQ fr L
 refine Rq 2 q ?_
 obtain⟨j0,fu,h⟩:=aa h
 refine WQ.qy (aj e96 q Zl q (ae fu) (aR iy fu) q) q q q (Rq 5 q ?_)
 obtain rfl:=Oi h
 exact WQ.nil ⟨[_,_,_,_,_,_,_,_],q,q,q⟩
 exact Rq 1 q (WQ.nil (Rxx 7 q (Fn2 h)))
 exact Rcx 4 q (En1 h)
 refine Rcc 7 q (Ci h q (λh=>Rcx 12 q (FA h)) λh=>?_)
 refine Rcl 5 q (Zq (ab E58 w.2.1 e50 q q Zl) q (Rl 2 q ?_))
 obtain⟨hN,hO,h⟩:=aa h
 refine Gg 6 131 137 hN hO (λh=>?_) (λh=>?_) ?_
 refine Rl 1 q ?_
 obtain⟨j1,fv,h⟩:=aa h
 exact Zy (aj e50 q Zl q (ae fv) (aR fy fv) q) q q q (On 4 6 h)
 exact On 6 6 h
 refine Rl 1 q ?_
 obtain⟨V,hQ,h⟩:=aa h
 refine Gg 12 138 150 V hQ (λh=>?_) (λh=>?_) ?_
 exact On 12 12 h
 refine Rl 4 q ?_
 obtain⟨hR,hT,h⟩:=aa h
 refine Gg 7 142 149 hR hT (λh=>?_) (λh=>?_) ?_
 refine Rl 3 q ?_
 replace h:=av h
 obtain⟨c1,h⟩:=h
 exact Zy (ar dG q q (bx c1) (bw c1)) q q q (Zy (bJ (off:=0) (n:=16) (λj=> .n (A j)) q q a2 q c1) q q q (On 2 7 h))
 exact On 7 7 h
 exact On 1 6 h
 refine Rlc 3 q (Jn0 [(3, .d (D.i .u8 p)),(4, .d (.pc (R38 t0))),(6, .pt 0 0),(9, .d (.v (.pointer none))),(11, .n B),(13, .pt 1 0),(16, .l E42 H),(21, .d (D.b V))] [.row 41 (rg A I J K), .row 41 (rG w.1), .row 45 [.d (D.i .u8 f.op), .n f.d, .n f.a, .n f.b, .n f.n, .n f.m, .n f.to]] h (λhU h=>?_) λh=>?_)
 refine Rcc 6 q (Ln1 (λfz=> [(3, .d (D.i .u8 p)),(4, .d (.pc (R38 t0))),(6, .pt 0 0),(9, .d (.v (.pointer none))),(11, .n B),(13, .pt 1 0),(16, .l E42 H),(17, .pt 2 0),(21, .d (D.b V)),(22, .n fz)]) (λ_=> [.row 41 (rg A I J K), .row 41 (rG w.1), .row 45 [.d (D.i .u8 f.op), .n f.d, .n f.a, .n f.b, .n f.n, .n f.m, .n f.to]]) (f8_l8 A w f V hU) h (λ_ h=>by rw[f8_l8] at h;cases h) λna fz h=>?_)
 rw[f8_l8] at h
 refine Rcc 7 q (Ci h q (λh=>?_) λh=>?_)
 refine Rcc 5 q (am kR kR (Rq 2 q ?_))
 obtain⟨hV,f0,h⟩:=aa h
 apply WQ.grp 6 (t:=156) (d:=162) (z:=hV)
 exact q
 intro M
 have h:=dP f0 M
 refine Rq 2 q ?_
 replace h:=av h
 obtain⟨c2,h⟩:=h
 refine WQ.qy (ar dG q q (bx c2) (bw c2)) q q q (WQ.qy (bJ (off:=0) (n:=16) (λj=> .n (w.1.r j)) q q a2 q c2) q q q (Rq 2 q ?_))
 obtain rfl:=Oi h
 exact WQ.nil ⟨[_,_,_,_,_,_],q,q,q⟩
 intro M
 have h:=dQ f0 M
 refine Rq 6 q ?_
 obtain rfl:=Oi h
 exact WQ.nil ⟨[_,_,_,_,_,_],q,q,q⟩
 refine Rq 1 q ?_
 obtain⟨hW,f1,h⟩:=aa h
 apply WQ.grp 20 (t:=163) (d:=183) (z:=hW)
 exact q
 intro N
 have h:=dP f1 N
 refine Rq 20 q ?_
 obtain rfl:=Oi h
 exact WQ.nil ⟨[_,_,_,_,_,_,_,_,_,_,_,_,_,_,_,_,_,_,_,_],q,q,q⟩
 intro N
 have h:=dQ f1 N
 refine Rq 3 q ?_
 apply WQ.and 5 (t:=166) (d:=171)
 exact q
 intro hp
 exact Rq 2 q (WQ.q (YieldsQ.fn q q q q q (f33_c) ⟨(aw (Zs _)),Zl,Zt⟩) (bu q q q) q q (Rq 2 q (WQ.nil ⟨[_,_,_,_,_],q,q,q⟩)))
 exact Rq 5 q (WQ.nil ⟨[_,_,_,_,_],q,q,q⟩)
 refine Rq 1 q ?_
 obtain⟨hX,f2,h⟩:=aa h
 apply WQ.grp 10 (t:=172) (d:=182) (z:=hX)
 exact q
 intro O
 have h:=dP f2 O
 refine Rq 2 q ?_
 replace h:=av h
 obtain⟨c3,h⟩:=h
 refine WQ.qy (ar dG q q (bx c3) (bw c3)) q q q (WQ.qy (bJ (off:=0) (n:=16) (λj=> .n (w.1.r j)) q q a2 q c3) q q q (Rq 2 q ?_))
 replace h:=av h
 obtain⟨c4,h⟩:=h
 refine WQ.qy (ar dG q q (bx c4) (bw c4)) q q q (WQ.qy (bJ (off:=0) (n:=16) (λj=> .n (A j)) q q a2 q c4) q q q (Rq 2 q ?_))
 obtain rfl:=Oi h
 exact WQ.nil ⟨[_,_,_,_,_,_,_,_,_,_],q,q,q⟩
 intro O
 have h:=dQ f2 O
 refine Rq 10 q ?_
 obtain rfl:=Oi h
 exact WQ.nil ⟨[_,_,_,_,_,_,_,_,_,_],q,q,q⟩
 refine Rq 1 q ?_
 obtain rfl:=Oi h
 exact WQ.nil ⟨[_,_,_,_,_,_,_],q,q,q⟩
 refine WQ.nil (Rxc 1 q (Ci h q (λh=>?_) λh=>?_))
 exact Rcx 16 q (FA h)
 exact Rcx 8 q (Fn1 h)
 exact Rcx 4 q (En0 h)
 refine Rcl 6 q ?_
 refine AG 6 186 192 6 6 ?_
 refine Rl 1 q ?_
 apply WL.or 7 (t:=193) (d:=200)
 exact q
 intro hr
 refine Rl 2 q ?_
 refine AG 4 195 199 4 4 ?_
 exact Rn 1 4
 exact Rn 7 7
 refine Rlc 2 q (Ci h q (λh=>Rcx 12 q (FA h)) λh=>?_)
 refine Rcc 2 q (Jn0 [(3, .d (D.i .u8 p)),(4, .d (.pc (R38 t0))),(6, .pt 0 0),(9, .d (.v (.pointer none))),(11, .n B),(13, .pt 1 0)] [.row 41 (rg A I J K), .row 41 (rG w.1), .row 45 [.d (D.i .u8 f.op), .n f.d, .n f.a, .n f.b, .n f.n, .n f.m, .n f.to]] h (λh0 h=>?_) λh=>?_)
 refine Rcc 6 q (Ln1 (λQ=> [(3, .d (D.i .u8 p)),(4, .d (.pc (R38 t0))),(6, .pt 0 0),(9, .d (.v (.pointer none))),(11, .n B),(13, .pt 1 0),(16, .l E42 H),(23, .n Q)]) (λ_=> [.row 41 (rg A I J K), .row 41 (rG w.1), .row 45 [.d (D.i .u8 f.op), .n f.d, .n f.a, .n f.b, .n f.n, .n f.m, .n f.to]]) (f8_l9 t0 H h0) h (λ_ h=>by rw[f8_l9] at h;cases h) λna Q h=>?_)
 rw[f8_l9] at h
 refine Rcl 5 q (Zq (ab E42 H e62 q q Zl) q (Rlc 3 q (Ci h q (λh=>?_) λh=>?_)))
 refine Rcc 2 q (Jn0 [(3, .d (D.i .u8 p)),(4, .d (.pc (R38 t0))),(6, .pt 0 0),(9, .d (.v (.pointer none))),(11, .n B),(13, .pt 1 0),(16, .l E42 H),(23, .n Q)] [.row 41 (rg A I J K), .row 41 (rG w.1), .row 45 [.d (D.i .u8 f.op), .n f.d, .n f.a, .n f.b, .n f.n, .n f.m, .n f.to]] h (λh1 h=>?_) λh=>?_)
 refine Rcc 7 q (Ln1 (λf3=> [(3, .d (D.i .u8 p)),(4, .d (.pc (R38 t0))),(6, .pt 0 0),(9, .d (.v (.pointer none))),(11, .n B),(13, .pt 1 0),(16, .l E42 H),(23, .n Q),(24, .n f3)]) (λ_=> [.row 41 (rg A I J K), .row 41 (rG w.1), .row 45 [.d (D.i .u8 f.op), .n f.d, .n f.a, .n f.b, .n f.n, .n f.m, .n f.to]]) (f8_l10 t0 H Q h1) h (λ_ h=>by rw[f8_l10] at h;cases h) λnb f3 h=>?_)
 rw[f8_l10] at h
 refine Rcl 6 q (Ix h e62 eP q Zl q q λh2 _ h=>(Rl 1 q (Zq (ab E2 h2 e42 q q Zl) q (Rlc 3 q (Ci h q (λh=>?_) λh=>?_)))))
 refine Rcc 5 q (am kR kR (Rq 3 q ?_))
 obtain⟨j2,f4,h⟩:=aa h
 refine WQ.qn (aj e33 q Zl q (ae f4) (aR cg f4) q) q (Rq 3 q ?_)
 obtain⟨j3,f5,h⟩:=aa h
 refine WQ.qn (aj e62 q Zl q (ae f5) (aR eP f5) q) q (Rq 2 q ?_)
 obtain⟨j4,f6,h⟩:=aa h
 refine WQ.qn (aj e42 q Zl q (ae f6) (aR fH f6) q) q (Rq 1 q ?_)
 obtain⟨j5,h3,h⟩:=aa h
 refine WQ.q (YieldsQ.fn q q q q q (f34_c h3) Lw) (Zw q) q q (Rq 1 q (WQ.nil (Rxc 1 q (Ci h q (λh=>?_) λh=>?_))))
 exact Rcx 20 q (FA h)
 exact Rcx 8 q (Fn1 h)
 exact Rcx 5 q (En0 h)
 exact Rcx 5 q (Fn1 h)
 exact Rcx 4 q (En0 h)
 exact Rcl 2 q (sS Z6 s41 Z2 (St q (Rlx 2 q (cZ ⟨_,_,_,_,_,_,_,_,_,_,_,_,_,_,_,h,Sb,Tv⟩))))
 exact Rcx 5 q (WE.drop 1 (env':=[(3, .d (D.i .u8 p)),(4, .d (.pc (R38 t0))),(6, .pt 0 0),(9, .d (.v (.pointer none))),(11, .n (IntKind.i64.wrap (B+1)))]) Sb q q (Nat.zero_le _) (Fn5 h))
 exact Rcx 4 q (En4 h)
 refine Rcl 2 q ?_
 obtain⟨j',h4,h⟩:=aa h
 exact WL.fn q q q q (f9_c h4) Zt (Zw q) q q (Rlx 4 q (FA h))

end Go.Proofs.YtkbahggepncliaaGreatDoor
