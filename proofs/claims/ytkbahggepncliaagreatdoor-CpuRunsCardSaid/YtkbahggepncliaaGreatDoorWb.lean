/- The walks of functions. -/
import Derived.Test.YtkbahggepncliaaGreatDoorX
import Derived.Test.YtkbahggepncliaaGreatDoorWa
set_option linter.unusedVariables false
set_option linter.unusedSimpArgs false
set_option linter.unusedSectionVars false
set_option linter.unnecessarySimpa false
set_option maxHeartbeats 4000000
set_option maxRecDepth 100000
namespace Go.Proofs.YtkbahggepncliaaGreatDoor
open Tryz
open Go Go.Sk

theorem f132_c(a:Int)(a1:Int)(b2:Int){r:Int×Bool}(h:f132 a a1 b2=some r):Pu prog 132 [.i .u8 a, .i .i64 a1, .i .i64 b2] (.tu [.i .i64 r.1, .b r.2]):=by
 unfold f132 at h
 refine fI func132 λ_ _=>?_
 refine Rcc 19 q (Ci h q (λh=>?_) (λh=>?_))
 exact Rcx 12 q (FA h)
 refine Rcc 6 q (Ci h q (λh=>?_) (λh=>?_))
 exact Rcx 12 q (FA h)
 refine Rcl 5 q ?_
 obtain⟨a',bb,h⟩:=aD h
 refine WL.inl (us:=[]) (λrv st'=>(a' ()=some r∧Le rv (.mp 0)∧SLe st' (tW 18))) q q q q q ?_ (Zw q) q q ?_
 refine cI func159 λ_ _ _ _=>?_
 refine Rcl 7 q (WL.s ((ie (α:=AV) (λx:Int=>Value.int .u8 x) (λx:AV=>x)).does) (Zw q) q q ?_)
 obtain⟨bk,bo,h⟩:=aD h
 refine WL.inl (us:=[.fn (.func 181) [] []]) (λrv st'=>(bk ()=some r∧Le rv (.fn (.func 214) [] [.pt 1 0])∧SLe st' (tS 0 1))) q q q q q ?_ (Zw q) q q ?_
 refine cI func180 λ_ _ _ _=>?_
 exact Rcl 2 q (Bx q q q (Rlx 10 q (ar (rs1 q (ay q)) ⟨h,Zl,⟨q,Zp,Zt⟩⟩)))
 rintro rv st1 ⟨h,hr,hst⟩
 subst bo
 dsimp only at h
 refine WL.cast 2 q hr (WL.weak hst (WL.s0 (bf (λx:Int=>Value.int .u8 x) (λx:AV=>x) _ (u:= .fn (.func 214) [] [.pt 1 0]) (.inl q) underlying237 underlying146 (KeyF.int .u8) q q q q) (Zw q) q ?_))
 obtain⟨bs,b0,h⟩:=aD h
 refine WL.inl (us:=[.fn (.func 182) [] []]) (λrv st'=>(bs ()=some r∧Le rv (.fn (.func 214) [] [.pt 2 0])∧SLe st' (tS 1 2))) q q q q q ?_ (Zw q) q q ?_
 refine cI func180 λ_ _ _ _=>?_
 exact Rcl 2 q (Bx q q q (Rlx 10 q (ar (rs1 q (ay q)) ⟨h,Zl,⟨q,Zp,Zp,Zt⟩⟩)))
 rintro rv st1 ⟨h,hr,hst⟩
 subst b0
 dsimp only at h
 refine WL.cast 3 q hr (WL.weak hst (WL.s0 (bf (λx:Int=>Value.int .u8 x) (λx:AV=>x) _ (u:= .fn (.func 214) [] [.pt 2 0]) (.inl q) underlying237 underlying146 (KeyF.int .u8) q q q q) (Zw q) q ?_))
 obtain⟨b1,b3,h⟩:=aD h
 refine WL.inl (us:=[.fn (.func 183) [] []]) (λrv st'=>(b1 ()=some r∧Le rv (.fn (.func 214) [] [.pt 3 0])∧SLe st' (tS 2 3))) q q q q q ?_ (Zw q) q q ?_
 refine cI func180 λ_ _ _ _=>?_
 exact Rcl 2 q (Bx q q q (Rlx 10 q (ar (rs1 q (ay q)) ⟨h,Zl,⟨q,Zp,Zp,Zp,Zt⟩⟩)))
 rintro rv st1 ⟨h,hr,hst⟩
 subst b3
 dsimp only at h
 refine WL.cast 4 q hr (WL.weak hst (WL.s0 (bf (λx:Int=>Value.int .u8 x) (λx:AV=>x) _ (u:= .fn (.func 214) [] [.pt 3 0]) (.inl q) underlying237 underlying146 (KeyF.int .u8) q q q q) (Zw q) q ?_))
 obtain⟨b4,b5,h⟩:=aD h
 refine WL.inl (us:=[.fn (.func 185) [] []]) (λrv st'=>(b4 ()=some r∧Le rv (.fn (.func 215) [] [.pt 4 0])∧SLe st' (tS 3 4))) q q q q q ?_ (Zw q) q q ?_
 refine cI func184 λ_ _ _ _=>?_
 exact Rcl 2 q (Bx q q q (Rlx 10 q (ar (rs1 q (ay q)) ⟨h,Zl,⟨q,Zp,Zp,Zp,Zp,Zt⟩⟩)))
 rintro rv st1 ⟨h,hr,hst⟩
 subst b5
 dsimp only at h
 refine WL.cast 5 q hr (WL.weak hst (WL.s0 (bf (λx:Int=>Value.int .u8 x) (λx:AV=>x) _ (u:= .fn (.func 215) [] [.pt 4 0]) (.inl q) underlying237 underlying146 (KeyF.int .u8) q q q q) (Zw q) q ?_))
 obtain⟨b6,b7,h⟩:=aD h
 refine WL.inl (us:=[.fn (.func 186) [] []]) (λrv st'=>(b6 ()=some r∧Le rv (.fn (.func 215) [] [.pt 5 0])∧SLe st' (tS 4 5))) q q q q q ?_ (Zw q) q q ?_
 refine cI func184 λ_ _ _ gs=>?_
 exact Rcl 2 q (Bx q q q (Rlx 10 q (ar (rs1 q (ay q)) ⟨h,Zl,⟨q,Zp,Zp,Zp,Zp,Zp,Zt⟩⟩)))
 rintro rv st1 ⟨h,hr,hst⟩
 subst b7
 dsimp only at h
 refine WL.cast 6 q hr (WL.weak hst (WL.s0 (bf (λx:Int=>Value.int .u8 x) (λx:AV=>x) _ (u:= .fn (.func 215) [] [.pt 5 0]) (.inl q) underlying237 underlying146 (KeyF.int .u8) q q q q) (Zw q) q ?_))
 obtain⟨b8,b9,h⟩:=aD h
 refine WL.inl (us:=[.fn (.func 187) [] []]) (λrv st'=>(b8 ()=some r∧Le rv (.fn (.func 215) [] [.pt 6 0])∧SLe st' (tS 5 6))) q q q q q ?_ (Zw q) q q ?_
 refine cI func184 λ_ _ _ _=>?_
 exact Rcl 2 q (Bx q q q (Rlx 10 q (ar (rs1 q (ay q)) ⟨h,Zl,⟨q,Zp,Zp,Zp,Zp,Zp,Zp,Zt⟩⟩)))
 rintro rv st1 ⟨h,hr,hst⟩
 subst b9
 dsimp only at h
 refine WL.cast 7 q hr (WL.weak hst (WL.s0 (bf (λx:Int=>Value.int .u8 x) (λx:AV=>x) _ (u:= .fn (.func 215) [] [.pt 6 0]) (.inl q) underlying237 underlying146 (KeyF.int .u8) q q q q) (Zw q) q ?_))
 obtain⟨b',ca,h⟩:=aD h
 refine WL.inl (us:=[.fn (.func 189) [] []]) (λrv st'=>(b' ()=some r∧Le rv (.fn (.func 216) [] [.pt 7 0])∧SLe st' (tS 6 7))) q q q q q ?_ (Zw q) q q ?_
 refine cI func188 λ_ _ _ _=>?_
 exact Rcl 2 q (Bx q q q (Rlx 10 q (ar (rs1 q (ay q)) ⟨h,Zl,⟨q,Zp,Zp,Zp,Zp,Zp,Zp,Zp,Zt⟩⟩)))
 rintro rv st1 ⟨h,hr,hst⟩
 subst ca
 dsimp only at h
 refine WL.cast 8 q hr (WL.weak hst (WL.s0 (bf (λx:Int=>Value.int .u8 x) (λx:AV=>x) _ (u:= .fn (.func 216) [] [.pt 7 0]) (.inl q) underlying237 underlying146 (KeyF.int .u8) q q q q) (Zw q) q ?_))
 obtain⟨cb,cc,h⟩:=aD h
 refine WL.inl (us:=[.fn (.func 190) [] []]) (λrv st'=>(cb ()=some r∧Le rv (.fn (.func 216) [] [.pt 8 0])∧SLe st' (tS 7 8))) q q q q q ?_ (Zw q) q q ?_
 refine cI func188 λ_ _ _ _=>?_
 exact Rcl 2 q (Bx q q q (Rlx 10 q (ar (rs1 q (ay q)) ⟨h,Zl,⟨q,Zp,Zp,Zp,Zp,Zp,Zp,Zp,Zp,Zt⟩⟩)))
 rintro rv st1 ⟨h,hr,hst⟩
 subst cc
 dsimp only at h
 refine WL.cast 9 q hr (WL.weak hst (WL.s0 (bf (λx:Int=>Value.int .u8 x) (λx:AV=>x) _ (u:= .fn (.func 216) [] [.pt 8 0]) (.inl q) underlying237 underlying146 (KeyF.int .u8) q q q q) (Zw q) q ?_))
 obtain⟨cd,ci,h⟩:=aD h
 refine WL.inl (us:=[.fn (.func 191) [] []]) (λrv st'=>(cd ()=some r∧Le rv (.fn (.func 216) [] [.pt 9 0])∧SLe st' (tS 8 9))) q q q q q ?_ (Zw q) q q ?_
 refine cI func188 λ_ _ _ _=>?_
 exact Rcl 2 q (Bx q q q (Rlx 10 q (ar (rs1 q (ay q)) ⟨h,Zl,⟨q,Zp,Zp,Zp,Zp,Zp,Zp,Zp,Zp,Zp,Zt⟩⟩)))
 rintro rv st1 ⟨h,hr,hst⟩
 subst ci
 dsimp only at h
 refine WL.cast 10 q hr (WL.weak hst (WL.s0 (bf (λx:Int=>Value.int .u8 x) (λx:AV=>x) _ (u:= .fn (.func 216) [] [.pt 9 0]) (.inl q) underlying237 underlying146 (KeyF.int .u8) q q q q) (Zw q) q ?_))
 obtain⟨cj,cl,h⟩:=aD h
 refine WL.inl (us:=[.fn (.func 192) [] []]) (λrv st'=>(cj ()=some r∧Le rv (.fn (.func 216) [] [.pt 10 0])∧SLe st' (tS 9 10))) q q q q q ?_ (Zw q) q q ?_
 refine cI func188 λ_ _ _ _=>?_
 exact Rcl 2 q (Bx q q q (Rlx 10 q (ar (rs1 q (ay q)) ⟨h,Zl,⟨q,Zp,Zp,Zp,Zp,Zp,Zp,Zp,Zp,Zp,Zp,Zt⟩⟩)))
 rintro rv st1 ⟨h,hr,hst⟩
 subst cl
 dsimp only at h
 refine WL.cast 11 q hr (WL.weak hst (WL.s0 (bf (λx:Int=>Value.int .u8 x) (λx:AV=>x) _ (u:= .fn (.func 216) [] [.pt 10 0]) (.inl q) underlying237 underlying146 (KeyF.int .u8) q q q q) (Zw q) q ?_))
 obtain⟨cn,cp,h⟩:=aD h
 refine WL.inl (us:=[.fn (.func 193) [] []]) (λrv st'=>(cn ()=some r∧Le rv (.fn (.func 216) [] [.pt 11 0])∧SLe st' (tS 10 11))) q q q q q ?_ (Zw q) q q ?_
 refine cI func188 λ_ _ _ gx=>?_
 exact Rcl 2 q (Bx q q q (Rlx 10 q (ar (rs1 q (ay q)) ⟨h,Zl,⟨q,Zp,Zp,Zp,Zp,Zp,Zp,Zp,Zp,Zp,Zp,Zp,Zt⟩⟩)))
 rintro rv st1 ⟨h,hr,hst⟩
 subst cp
 dsimp only at h
 refine WL.cast 12 q hr (WL.weak hst (WL.s0 (bf (λx:Int=>Value.int .u8 x) (λx:AV=>x) _ (u:= .fn (.func 216) [] [.pt 11 0]) (.inl q) underlying237 underlying146 (KeyF.int .u8) q q q q) (Zw q) q ?_))
 obtain⟨cx,c0,h⟩:=aD h
 refine WL.inl (us:=[.fn (.func 194) [] []]) (λrv st'=>(cx ()=some r∧Le rv (.fn (.func 216) [] [.pt 12 0])∧SLe st' (tS 11 12))) q q q q q ?_ (Zw q) q q ?_
 refine cI func188 λ_ _ _ _=>?_
 exact Rcl 2 q (Bx q q q (Rlx 10 q (ar (rs1 q (ay q)) ⟨h,Zl,⟨q,Zp,Zp,Zp,Zp,Zp,Zp,Zp,Zp,Zp,Zp,Zp,Zp,Zt⟩⟩)))
 rintro rv st1 ⟨h,hr,hst⟩
 subst c0
 dsimp only at h
 refine WL.cast 13 q hr (WL.weak hst (WL.s0 (bf (λx:Int=>Value.int .u8 x) (λx:AV=>x) _ (u:= .fn (.func 216) [] [.pt 12 0]) (.inl q) underlying237 underlying146 (KeyF.int .u8) q q q q) (Zw q) q ?_))
 obtain⟨c1,c2,h⟩:=aD h
 refine WL.inl (us:=[.fn (.func 195) [] []]) (λrv st'=>(c1 ()=some r∧Le rv (.fn (.func 214) [] [.pt 13 0])∧SLe st' (tS 12 13))) q q q q q ?_ (Zw q) q q ?_
 refine cI func180 λ_ _ _ _=>?_
 exact Rcl 2 q (Bx q q q (Rlx 10 q (ar (rs1 q (ay q)) ⟨h,Zl,⟨q,Zp,Zp,Zp,Zp,Zp,Zp,Zp,Zp,Zp,Zp,Zp,Zp,Zp,Zt⟩⟩)))
 rintro rv st1 ⟨h,hr,hst⟩
 subst c2
 dsimp only at h
 refine WL.cast 14 q hr (WL.weak hst (WL.s0 (bf (λx:Int=>Value.int .u8 x) (λx:AV=>x) _ (u:= .fn (.func 214) [] [.pt 13 0]) (.inl q) underlying237 underlying146 (KeyF.int .u8) q q q q) (Zw q) q ?_))
 obtain⟨c3,c4,h⟩:=aD h
 refine WL.inl (us:=[.fn (.func 196) [] []]) (λrv st'=>(c3 ()=some r∧Le rv (.fn (.func 214) [] [.pt 14 0])∧SLe st' (tS 13 14))) q q q q q ?_ (Zw q) q q ?_
 refine cI func180 λ_ _ _ _=>?_
 exact Rcl 2 q (Bx q q q (Rlx 10 q (ar (rs1 q (ay q)) ⟨h,Zl,⟨q,Zp,Zp,Zp,Zp,Zp,Zp,Zp,Zp,Zp,Zp,Zp,Zp,Zp,Zp,Zt⟩⟩)))
 rintro rv st1 ⟨h,hr,hst⟩
 subst c4
 dsimp only at h
 refine WL.cast 15 q hr (WL.weak hst (WL.s0 (bf (λx:Int=>Value.int .u8 x) (λx:AV=>x) _ (u:= .fn (.func 214) [] [.pt 14 0]) (.inl q) underlying237 underlying146 (KeyF.int .u8) q q q q) (Zw q) q ?_))
 obtain⟨c5,c6,h⟩:=aD h
 refine WL.inl (us:=[.fn (.func 197) [] []]) (λrv st'=>(c5 ()=some r∧Le rv (.fn (.func 214) [] [.pt 15 0])∧SLe st' (tS 14 15))) q q q q q ?_ (Zw q) q q ?_
 refine cI func180 λ_ _ _ g0=>?_
 exact Rcl 2 q (Bx q q q (Rlx 10 q (ar (rs1 q (ay q)) ⟨h,Zl,⟨q,Zp,Zp,Zp,Zp,Zp,Zp,Zp,Zp,Zp,Zp,Zp,Zp,Zp,Zp,Zp,Zt⟩⟩)))
 rintro rv st1 ⟨h,hr,hst⟩
 subst c6
 dsimp only at h
 refine WL.cast 16 q hr (WL.weak hst (WL.s0 (bf (λx:Int=>Value.int .u8 x) (λx:AV=>x) _ (u:= .fn (.func 214) [] [.pt 15 0]) (.inl q) underlying237 underlying146 (KeyF.int .u8) q q q q) (Zw q) q ?_))
 obtain⟨c7,c',h⟩:=aD h
 refine WL.inl (us:=[.fn (.func 198) [] []]) (λrv st'=>(c7 ()=some r∧Le rv (.fn (.func 214) [] [.pt 16 0])∧SLe st' (tS 15 16))) q q q q q ?_ (Zw q) q q ?_
 refine cI func180 λ_ _ _ _=>?_
 exact Rcl 2 q (Bx q q q (Rlx 10 q (ar (rs1 q (ay q)) ⟨h,Zl,⟨q,Zp,Zp,Zp,Zp,Zp,Zp,Zp,Zp,Zp,Zp,Zp,Zp,Zp,Zp,Zp,Zp,Zt⟩⟩)))
 rintro rv st1 ⟨h,hr,hst⟩
 subst c'
 dsimp only at h
 refine WL.cast 17 q hr (WL.weak hst (WL.s0 (bf (λx:Int=>Value.int .u8 x) (λx:AV=>x) _ (u:= .fn (.func 214) [] [.pt 16 0]) (.inl q) underlying237 underlying146 (KeyF.int .u8) q q q q) (Zw q) q ?_))
 obtain⟨dd,df,h⟩:=aD h
 refine WL.inl (us:=[.fn (.func 199) [] []]) (λrv st'=>(dd ()=some r∧Le rv (.fn (.func 214) [] [.pt 17 0])∧SLe st' (tS 16 17))) q q q q q ?_ (Zw q) q q ?_
 refine cI func180 λ_ _ _ _=>?_
 exact Rcl 2 q (Bx q q q (Rlx 10 q (ar (rs1 q (ay q)) ⟨h,Zl,⟨q,Zp,Zp,Zp,Zp,Zp,Zp,Zp,Zp,Zp,Zp,Zp,Zp,Zp,Zp,Zp,Zp,Zp,Zt⟩⟩)))
 rintro rv st1 ⟨h,hr,hst⟩
 subst df
 dsimp only at h
 refine WL.cast 18 q hr (WL.weak hst (WL.s0 (bf (λx:Int=>Value.int .u8 x) (λx:AV=>x) _ (u:= .fn (.func 214) [] [.pt 17 0]) (.inl q) underlying237 underlying146 (KeyF.int .u8) q q q q) (Zw q) q ?_))
 obtain⟨ds,dA,h⟩:=aD h
 refine WL.inl (us:=[.fn (.func 200) [] []]) (λrv st'=>(ds ()=some r∧Le rv (.fn (.func 214) [] [.pt 18 0])∧SLe st' (tS 17 18))) q q q q q ?_ (Zw q) q q ?_
 refine cI func180 λ_ _ _ _=>?_
 exact Rcl 2 q (Bx q q q (Rlx 10 q (ar (rs1 q (ay q)) ⟨h,Zl,⟨q,Zp,Zp,Zp,Zp,Zp,Zp,Zp,Zp,Zp,Zp,Zp,Zp,Zp,Zp,Zp,Zp,Zp,Zp,Zt⟩⟩)))
 rintro rv st1 ⟨h,hr,hst⟩
 subst dA
 dsimp only at h
 exact WL.cast 19 q hr (WL.weak hst (WL.s0 (bf (λx:Int=>Value.int .u8 x) (λx:AV=>x) _ (u:= .fn (.func 214) [] [.pt 18 0]) (.inl q) underlying237 underlying146 (KeyF.int .u8) q q q q) (Zw q) q (Rl 2 q (Zn (Rcx 1 q (ar (rs1 q (ay q)) ⟨h,Zl,⟨q,Zp,Zp,Zp,Zp,Zp,Zp,Zp,Zp,Zp,Zp,Zp,Zp,Zp,Zp,Zp,Zp,Zp,Zp,Zt⟩⟩))))))
 rintro rv st1 ⟨h,hr,hst⟩
 subst bb
 dsimp only at h
 refine WL.cast 22 q hr (WL.weak hst ?_)
 rcases bJ h with⟨p,h⟩|⟨t,h⟩
 refine Rl 1 q (Zq (bt (λx:Int=>Value.int .u8 x) (λx:AV=>x) _ (k:=a) (z:= .d (.v .nilFunc)) underlying237 underlying146 (KeyF.int .u8) q q q kR q (by rw[p]<;>rfl) (by rw[p]<;>rfl)) q (Rl 5 q (Zn (Rcc 7 q (bl q (Rcc 3 q (WC.weak (st':=(dT 1 209 181 17)) Tv (WC.sub (env':=[(0, .d (D.i .u8 a)),(1, .n a1),(2, .n b2),(8, .fn (.func 214) [] [.pt 1 0])]) Sb (Rcl 4 q ?_)))))))))
 obtain⟨dS,d0,h⟩:=aD h
 refine WL.inl (us:=[.n a1, .n b2, .pt 1 0]) (λrv st'=>(dS ()=some r∧Le rv (.tu [.n (f181 a1 b2), .d (D.b true)])∧SLe st' (dT 1 209 181 17))) q q q q q ?_ (Zw q) q q ?_
 refine cI func214 λ_ _ _ _=>?_
 exact Rcl 11 q (wF Z4 (f181_c _ _) Lw Z3 (Rlx 5 q (ar (rs2 q (ay q) (ay q)) ⟨h,(Le.tu Lw),Tv⟩)))
 rintro rv st1 ⟨h,hr,hst⟩
 subst d0
 dsimp only at h
 exact WL.cast 32 q hr (WL.weak hst (Rl 4 q (Zn (Rcx 1 q (FA h)))))
 rcases bJ h with⟨w,h⟩|⟨y,h⟩
 refine Rl 1 q (Zq (bt (λx:Int=>Value.int .u8 x) (λx:AV=>x) _ (k:=a) (z:= .d (.v .nilFunc)) underlying237 underlying146 (KeyF.int .u8) q q q kR q (by rw[w]<;>rfl) (by rw[w]<;>rfl)) q (Rl 5 q (Zn (Rcc 7 q (bl q (Rcc 3 q (WC.weak (st':=(dT 2 209 182 16)) Tv (WC.sub (env':=[(0, .d (D.i .u8 a)),(1, .n a1),(2, .n b2),(8, .fn (.func 214) [] [.pt 2 0])]) Sb (Rcl 4 q ?_)))))))))
 obtain⟨d1,d2,h⟩:=aD h
 refine WL.inl (us:=[.n a1, .n b2, .pt 2 0]) (λrv st'=>(d1 ()=some r∧Le rv (.tu [.n (f182 a1 b2), .d (D.b true)])∧SLe st' (dT 2 209 182 16))) q q q q q ?_ (Zw q) q q ?_
 refine cI func214 λ_ _ _ _=>?_
 exact Rcl 11 q (wF Z4 (f182_c _ _) Lw Z3 (Rlx 5 q (ar (rs2 q (ay q) (ay q)) ⟨h,(Le.tu Lw),Tv⟩)))
 rintro rv st1 ⟨h,hr,hst⟩
 subst d2
 dsimp only at h
 exact WL.cast 32 q hr (WL.weak hst (Rl 4 q (Zn (Rcx 1 q (FA h)))))
 rcases bJ h with⟨A,h⟩|⟨B,h⟩
 refine Rl 1 q (Zq (bt (λx:Int=>Value.int .u8 x) (λx:AV=>x) _ (k:=a) (z:= .d (.v .nilFunc)) underlying237 underlying146 (KeyF.int .u8) q q q kR q (by rw[A]<;>rfl) (by rw[A]<;>rfl)) q (Rl 5 q (Zn (Rcc 7 q (bl q (Rcc 3 q (WC.weak (st':=(dT 3 209 183 15)) Tv (WC.sub (env':=[(0, .d (D.i .u8 a)),(1, .n a1),(2, .n b2),(8, .fn (.func 214) [] [.pt 3 0])]) Sb (Rcl 4 q ?_)))))))))
 obtain⟨d3,d',h⟩:=aD h
 refine WL.inl (us:=[.n a1, .n b2, .pt 3 0]) (λrv st'=>(d3 ()=some r∧Le rv (.tu [.n (f183 a1 b2), .d (D.b true)])∧SLe st' (dT 3 209 183 15))) q q q q q ?_ (Zw q) q q ?_
 refine cI func214 λ_ _ _ _=>?_
 exact Rcl 11 q (wF Z4 (f183_c _ _) Lw Z3 (Rlx 5 q (ar (rs2 q (ay q) (ay q)) ⟨h,(Le.tu Lw),Tv⟩)))
 rintro rv st1 ⟨h,hr,hst⟩
 subst d'
 dsimp only at h
 exact WL.cast 32 q hr (WL.weak hst (Rl 4 q (Zn (Rcx 1 q (FA h)))))
 rcases bJ h with⟨C,h⟩|⟨E,h⟩
 refine Rl 1 q (Zq (bt (λx:Int=>Value.int .u8 x) (λx:AV=>x) _ (k:=a) (z:= .d (.v .nilFunc)) underlying237 underlying146 (KeyF.int .u8) q q q kR q (by rw[C]<;>rfl) (by rw[C]<;>rfl)) q (Rl 5 q (Zn (Rcc 7 q (bl q (Rcc 3 q (WC.weak (st':=(dT 4 209 185 14)) Tv (WC.sub (env':=[(0, .d (D.i .u8 a)),(1, .n a1),(2, .n b2),(8, .fn (.func 215) [] [.pt 4 0])]) Sb (Rcl 4 q ?_)))))))))
 obtain⟨ec,ee,h⟩:=aD h
 refine WL.inl (us:=[.n a1, .n b2, .pt 4 0]) (λrv st'=>(∃(c:Bool),∃(e:Int),ec c e=some r∧Le rv (.tu [.n e, .d (D.b c)])∧SLe st' (dT 4 209 185 14))) q q q q q ?_ (Zw q) q q ?_
 refine cI func215 λ_ _ _ _=>?_
 refine Rcc 13 q (Ci h q (λh=>?_) (λh=>?_))
 exact Rcx 8 q (ar (rs2 q (ay q) (ay q)) ⟨false,0,h,(Le.tu Lw),Tv⟩)
 refine Rcl 7 q ?_
 obtain⟨ei,el,h⟩:=ac h
 exact wF Z4 (f185_c _ _ el) Lw Z3 (Rlx 5 q (ar (rs2 q (ay q) (ay q)) ⟨true,ei,h,(Le.tu Lw),Tv⟩))
 rintro rv st1 ⟨c,e,h,hr,hst⟩
 subst ee
 dsimp only at h
 exact WL.cast 32 q hr (WL.weak hst (Rl 4 q (Zn (Rcx 1 q (FA h)))))
 rcases bJ h with⟨F,h⟩|⟨G,h⟩
 refine Rl 1 q (Zq (bt (λx:Int=>Value.int .u8 x) (λx:AV=>x) _ (k:=a) (z:= .d (.v .nilFunc)) underlying237 underlying146 (KeyF.int .u8) q q q kR q (by rw[F]<;>rfl) (by rw[F]<;>rfl)) q (Rl 5 q (Zn (Rcc 7 q (bl q (Rcc 3 q (WC.weak (st':=(dT 5 209 186 13)) Tv (WC.sub (env':=[(0, .d (D.i .u8 a)),(1, .n a1),(2, .n b2),(8, .fn (.func 215) [] [.pt 5 0])]) Sb (Rcl 4 q ?_)))))))))
 obtain⟨em,en,h⟩:=aD h
 refine WL.inl (us:=[.n a1, .n b2, .pt 5 0]) (λrv st'=>(∃(f:Bool),∃(g:Int),em f g=some r∧Le rv (.tu [.n g, .d (D.b f)])∧SLe st' (dT 5 209 186 13))) q q q q q ?_ (Zw q) q q ?_
 refine cI func215 λ_ _ _ _=>?_
 refine Rcc 13 q (Ci h q (λh=>?_) (λh=>?_))
 exact Rcx 8 q (ar (rs2 q (ay q) (ay q)) ⟨false,0,h,(Le.tu Lw),Tv⟩)
 refine Rcl 7 q ?_
 obtain⟨er,es,h⟩:=ac h
 exact wF Z4 (f186_c _ _ es) Lw Z3 (Rlx 5 q (ar (rs2 q (ay q) (ay q)) ⟨true,er,h,(Le.tu Lw),Tv⟩))
 rintro rv st1 ⟨f,g,h,hr,hst⟩
 subst en
 dsimp only at h
 exact WL.cast 32 q hr (WL.weak hst (Rl 4 q (Zn (Rcx 1 q (FA h)))))
 rcases bJ h with⟨H,h⟩|⟨I,h⟩
 refine Rl 1 q (Zq (bt (λx:Int=>Value.int .u8 x) (λx:AV=>x) _ (k:=a) (z:= .d (.v .nilFunc)) underlying237 underlying146 (KeyF.int .u8) q q q kR q (by rw[H]<;>rfl) (by rw[H]<;>rfl)) q (Rl 5 q (Zn (Rcc 7 q (bl q (Rcc 3 q (WC.weak (st':=(dT 6 209 187 12)) Tv (WC.sub (env':=[(0, .d (D.i .u8 a)),(1, .n a1),(2, .n b2),(8, .fn (.func 215) [] [.pt 6 0])]) Sb (Rcl 4 q ?_)))))))))
 obtain⟨et,ew,h⟩:=aD h
 refine WL.inl (us:=[.n a1, .n b2, .pt 6 0]) (λrv st'=>(∃(j:Bool),∃(m:Int),et j m=some r∧Le rv (.tu [.n m, .d (D.b j)])∧SLe st' (dT 6 209 187 12))) q q q q q ?_ (Zw q) q q ?_
 refine cI func215 λ_ _ _ _=>?_
 refine Rcc 13 q (Ci h q (λh=>?_) (λh=>?_))
 exact Rcx 8 q (ar (rs2 q (ay q) (ay q)) ⟨false,0,h,(Le.tu Lw),Tv⟩)
 refine Rcl 7 q ?_
 obtain⟨ex,ey,h⟩:=ac h
 exact wF Z4 (f187_c _ _ ey) Lw Z3 (Rlx 5 q (ar (rs2 q (ay q) (ay q)) ⟨true,ex,h,(Le.tu Lw),Tv⟩))
 rintro rv st1 ⟨j,m,h,hr,hst⟩
 subst ew
 dsimp only at h
 exact WL.cast 32 q hr (WL.weak hst (Rl 4 q (Zn (Rcx 1 q (FA h)))))
 rcases bJ h with⟨J,h⟩|⟨K,h⟩
 refine Rl 1 q (Zq (bt (λx:Int=>Value.int .u8 x) (λx:AV=>x) _ (k:=a) (z:= .d (.v .nilFunc)) underlying237 underlying146 (KeyF.int .u8) q q q kR q (by rw[J]<;>rfl) (by rw[J]<;>rfl)) q (Rl 5 q (Zn (Rcc 7 q (bl q (Rcc 3 q (WC.weak (st':=(dT 7 195 189 11)) Tv (WC.sub (env':=[(0, .d (D.i .u8 a)),(1, .n a1),(2, .n b2),(8, .fn (.func 216) [] [.pt 7 0])]) Sb (Rcl 4 q ?_)))))))))
 obtain⟨e0,e1,h⟩:=aD h
 refine WL.inl (us:=[.n a1, .n b2, .pt 7 0]) (λrv st'=>(e0 ()=some r∧Le rv (.tu [.n (f217 (f189 a1 b2)), .d (D.b true)])∧SLe st' (dT 7 195 189 11))) q q q q q ?_ (Zw q) q q ?_
 refine cI func216 λ_ _ _ _=>?_
 exact Rcl 11 q (wF Z4 (f189_c _ _) Lw Z3 (wF Z4 (f217_c _) Lw Z3 (Rlx 5 q (ar (rs2 q (ay q) (ay q)) ⟨h,(Le.tu Lw),Tv⟩))))
 rintro rv st1 ⟨h,hr,hst⟩
 subst e1
 dsimp only at h
 exact WL.cast 32 q hr (WL.weak hst (Rl 4 q (Zn (Rcx 1 q (FA h)))))
 rcases bJ h with⟨L,h⟩|⟨M,h⟩
 refine Rl 1 q (Zq (bt (λx:Int=>Value.int .u8 x) (λx:AV=>x) _ (k:=a) (z:= .d (.v .nilFunc)) underlying237 underlying146 (KeyF.int .u8) q q q kR q (by rw[L]<;>rfl) (by rw[L]<;>rfl)) q (Rl 5 q (Zn (Rcc 7 q (bl q (Rcc 3 q (WC.weak (st':=(dT 8 195 190 10)) Tv (WC.sub (env':=[(0, .d (D.i .u8 a)),(1, .n a1),(2, .n b2),(8, .fn (.func 216) [] [.pt 8 0])]) Sb (Rcl 4 q ?_)))))))))
 obtain⟨e2,e3,h⟩:=aD h
 refine WL.inl (us:=[.n a1, .n b2, .pt 8 0]) (λrv st'=>(e2 ()=some r∧Le rv (.tu [.n (f217 (f190 a1 b2)), .d (D.b true)])∧SLe st' (dT 8 195 190 10))) q q q q q ?_ (Zw q) q q ?_
 refine cI func216 λ_ _ _ _=>?_
 exact Rcl 11 q (wF Z4 (f190_c _ _) Lw Z3 (wF Z4 (f217_c _) Lw Z3 (Rlx 5 q (ar (rs2 q (ay q) (ay q)) ⟨h,(Le.tu Lw),Tv⟩))))
 rintro rv st1 ⟨h,hr,hst⟩
 subst e3
 dsimp only at h
 exact WL.cast 32 q hr (WL.weak hst (Rl 4 q (Zn (Rcx 1 q (FA h)))))
 rcases bJ h with⟨N,h⟩|⟨O,h⟩
 refine Rl 1 q (Zq (bt (λx:Int=>Value.int .u8 x) (λx:AV=>x) _ (k:=a) (z:= .d (.v .nilFunc)) underlying237 underlying146 (KeyF.int .u8) q q q kR q (by rw[N]<;>rfl) (by rw[N]<;>rfl)) q (Rl 5 q (Zn (Rcc 7 q (bl q (Rcc 3 q (WC.weak (st':=(dT 9 195 191 9)) Tv (WC.sub (env':=[(0, .d (D.i .u8 a)),(1, .n a1),(2, .n b2),(8, .fn (.func 216) [] [.pt 9 0])]) Sb (Rcl 4 q ?_)))))))))
 obtain⟨e4,e5,h⟩:=aD h
 refine WL.inl (us:=[.n a1, .n b2, .pt 9 0]) (λrv st'=>(e4 ()=some r∧Le rv (.tu [.n (f217 (f191 a1 b2)), .d (D.b true)])∧SLe st' (dT 9 195 191 9))) q q q q q ?_ (Zw q) q q ?_
 refine cI func216 λ_ _ _ _=>?_
 exact Rcl 11 q (wF Z4 (f191_c _ _) Lw Z3 (wF Z4 (f217_c _) Lw Z3 (Rlx 5 q (ar (rs2 q (ay q) (ay q)) ⟨h,(Le.tu Lw),Tv⟩))))
 rintro rv st1 ⟨h,hr,hst⟩
 subst e5
 dsimp only at h
 exact WL.cast 32 q hr (WL.weak hst (Rl 4 q (Zn (Rcx 1 q (FA h)))))
 rcases bJ h with⟨P,h⟩|⟨Q,h⟩
 refine Rl 1 q (Zq (bt (λx:Int=>Value.int .u8 x) (λx:AV=>x) _ (k:=a) (z:= .d (.v .nilFunc)) underlying237 underlying146 (KeyF.int .u8) q q q kR q (by rw[P]<;>rfl) (by rw[P]<;>rfl)) q (Rl 5 q (Zn (Rcc 7 q (bl q (Rcc 3 q (WC.weak (st':=(dT 10 195 192 8)) Tv (WC.sub (env':=[(0, .d (D.i .u8 a)),(1, .n a1),(2, .n b2),(8, .fn (.func 216) [] [.pt 10 0])]) Sb (Rcl 4 q ?_)))))))))
 obtain⟨e6,e7,h⟩:=aD h
 refine WL.inl (us:=[.n a1, .n b2, .pt 10 0]) (λrv st'=>(e6 ()=some r∧Le rv (.tu [.n (f217 (f192 a1 b2)), .d (D.b true)])∧SLe st' (dT 10 195 192 8))) q q q q q ?_ (Zw q) q q ?_
 refine cI func216 λ_ _ _ _=>?_
 exact Rcl 11 q (wF Z4 (f192_c _ _) Lw Z3 (wF Z4 (f217_c _) Lw Z3 (Rlx 5 q (ar (rs2 q (ay q) (ay q)) ⟨h,(Le.tu Lw),Tv⟩))))
 rintro rv st1 ⟨h,hr,hst⟩
 subst e7
 dsimp only at h
 exact WL.cast 32 q hr (WL.weak hst (Rl 4 q (Zn (Rcx 1 q (FA h)))))
 rcases bJ h with⟨R,h⟩|⟨S,h⟩
 refine Rl 1 q (Zq (bt (λx:Int=>Value.int .u8 x) (λx:AV=>x) _ (k:=a) (z:= .d (.v .nilFunc)) underlying237 underlying146 (KeyF.int .u8) q q q kR q (by rw[R]<;>rfl) (by rw[R]<;>rfl)) q (Rl 5 q (Zn (Rcc 7 q (bl q (Rcc 3 q (WC.weak (st':=(dT 11 195 193 7)) Tv (WC.sub (env':=[(0, .d (D.i .u8 a)),(1, .n a1),(2, .n b2),(8, .fn (.func 216) [] [.pt 11 0])]) Sb (Rcl 4 q ?_)))))))))
 obtain⟨e8,e',h⟩:=aD h
 refine WL.inl (us:=[.n a1, .n b2, .pt 11 0]) (λrv st'=>(e8 ()=some r∧Le rv (.tu [.n (f217 (f193 a1 b2)), .d (D.b true)])∧SLe st' (dT 11 195 193 7))) q q q q q ?_ (Zw q) q q ?_
 refine cI func216 λ_ _ _ _=>?_
 exact Rcl 11 q (wF Z4 (f193_c _ _) Lw Z3 (wF Z4 (f217_c _) Lw Z3 (Rlx 5 q (ar (rs2 q (ay q) (ay q)) ⟨h,(Le.tu Lw),Tv⟩))))
 rintro rv st1 ⟨h,hr,hst⟩
 subst e'
 dsimp only at h
 exact WL.cast 32 q hr (WL.weak hst (Rl 4 q (Zn (Rcx 1 q (FA h)))))
 rcases bJ h with⟨T,h⟩|⟨U,h⟩
 refine Rl 1 q (Zq (bt (λx:Int=>Value.int .u8 x) (λx:AV=>x) _ (k:=a) (z:= .d (.v .nilFunc)) underlying237 underlying146 (KeyF.int .u8) q q q kR q (by rw[T]<;>rfl) (by rw[T]<;>rfl)) q (Rl 5 q (Zn (Rcc 7 q (bl q (Rcc 3 q (WC.weak (st':=(dT 12 195 194 6)) Tv (WC.sub (env':=[(0, .d (D.i .u8 a)),(1, .n a1),(2, .n b2),(8, .fn (.func 216) [] [.pt 12 0])]) Sb (Rcl 4 q ?_)))))))))
 obtain⟨fo,fr,h⟩:=aD h
 refine WL.inl (us:=[.n a1, .n b2, .pt 12 0]) (λrv st'=>(fo ()=some r∧Le rv (.tu [.n (f217 (f194 a1 b2)), .d (D.b true)])∧SLe st' (dT 12 195 194 6))) q q q q q ?_ (Zw q) q q ?_
 refine cI func216 λ_ _ _ _=>?_
 exact Rcl 11 q (wF Z4 (f194_c _ _) Lw Z3 (wF Z4 (f217_c _) Lw Z3 (Rlx 5 q (ar (rs2 q (ay q) (ay q)) ⟨h,(Le.tu Lw),Tv⟩))))
 rintro rv st1 ⟨h,hr,hst⟩
 subst fr
 dsimp only at h
 exact WL.cast 32 q hr (WL.weak hst (Rl 4 q (Zn (Rcx 1 q (FA h)))))
 rcases bJ h with⟨V,h⟩|⟨W,h⟩
 refine Rl 1 q (Zq (bt (λx:Int=>Value.int .u8 x) (λx:AV=>x) _ (k:=a) (z:= .d (.v .nilFunc)) underlying237 underlying146 (KeyF.int .u8) q q q kR q (by rw[V]<;>rfl) (by rw[V]<;>rfl)) q (Rl 5 q (Zn (Rcc 7 q (bl q (Rcc 3 q (WC.weak (st':=(dT 13 209 195 5)) Tv (WC.sub (env':=[(0, .d (D.i .u8 a)),(1, .n a1),(2, .n b2),(8, .fn (.func 214) [] [.pt 13 0])]) Sb (Rcl 4 q ?_)))))))))
 obtain⟨fu,fv,h⟩:=aD h
 refine WL.inl (us:=[.n a1, .n b2, .pt 13 0]) (λrv st'=>(fu ()=some r∧Le rv (.tu [.n (f195 a1 b2), .d (D.b true)])∧SLe st' (dT 13 209 195 5))) q q q q q ?_ (Zw q) q q ?_
 refine cI func214 λ_ _ _ _=>?_
 exact Rcl 11 q (wF Z4 (f195_c _ _) Lw Z3 (Rlx 5 q (ar (rs2 q (ay q) (ay q)) ⟨h,(Le.tu Lw),Tv⟩)))
 rintro rv st1 ⟨h,hr,hst⟩
 subst fv
 dsimp only at h
 exact WL.cast 32 q hr (WL.weak hst (Rl 4 q (Zn (Rcx 1 q (FA h)))))
 rcases bJ h with⟨X,h⟩|⟨Y,h⟩
 refine Rl 1 q (Zq (bt (λx:Int=>Value.int .u8 x) (λx:AV=>x) _ (k:=a) (z:= .d (.v .nilFunc)) underlying237 underlying146 (KeyF.int .u8) q q q kR q (by rw[X]<;>rfl) (by rw[X]<;>rfl)) q (Rl 5 q (Zn (Rcc 7 q (bl q (Rcc 3 q (WC.weak (st':=(dT 14 209 196 4)) Tv (WC.sub (env':=[(0, .d (D.i .u8 a)),(1, .n a1),(2, .n b2),(8, .fn (.func 214) [] [.pt 14 0])]) Sb (Rcl 4 q ?_)))))))))
 obtain⟨fz,f0,h⟩:=aD h
 refine WL.inl (us:=[.n a1, .n b2, .pt 14 0]) (λrv st'=>(fz ()=some r∧Le rv (.tu [.n (f196 a1 b2), .d (D.b true)])∧SLe st' (dT 14 209 196 4))) q q q q q ?_ (Zw q) q q ?_
 refine cI func214 λ_ _ _ _=>?_
 exact Rcl 11 q (wF Z4 (f196_c _ _) Lw Z3 (Rlx 5 q (ar (rs2 q (ay q) (ay q)) ⟨h,(Le.tu Lw),Tv⟩)))
 rintro rv st1 ⟨h,hr,hst⟩
 subst f0
 dsimp only at h
 exact WL.cast 32 q hr (WL.weak hst (Rl 4 q (Zn (Rcx 1 q (FA h)))))
 rcases bJ h with⟨Z,h⟩|⟨ad,h⟩
 refine Rl 1 q (Zq (bt (λx:Int=>Value.int .u8 x) (λx:AV=>x) _ (k:=a) (z:= .d (.v .nilFunc)) underlying237 underlying146 (KeyF.int .u8) q q q kR q (by rw[Z]<;>rfl) (by rw[Z]<;>rfl)) q (Rl 5 q (Zn (Rcc 7 q (bl q (Rcc 3 q (WC.weak (st':=(dT 15 209 197 3)) Tv (WC.sub (env':=[(0, .d (D.i .u8 a)),(1, .n a1),(2, .n b2),(8, .fn (.func 214) [] [.pt 15 0])]) Sb (Rcl 4 q ?_)))))))))
 obtain⟨f1,f2,h⟩:=aD h
 refine WL.inl (us:=[.n a1, .n b2, .pt 15 0]) (λrv st'=>(f1 ()=some r∧Le rv (.tu [.n (f197 a1 b2), .d (D.b true)])∧SLe st' (dT 15 209 197 3))) q q q q q ?_ (Zw q) q q ?_
 refine cI func214 λ_ _ _ _=>?_
 exact Rcl 11 q (wF Z4 (f197_c _ _) Lw Z3 (Rlx 5 q (ar (rs2 q (ay q) (ay q)) ⟨h,(Le.tu Lw),Tv⟩)))
 rintro rv st1 ⟨h,hr,hst⟩
 subst f2
 dsimp only at h
 exact WL.cast 32 q hr (WL.weak hst (Rl 4 q (Zn (Rcx 1 q (FA h)))))
 rcases bJ h with⟨ag,h⟩|⟨ax,h⟩
 refine Rl 1 q (Zq (bt (λx:Int=>Value.int .u8 x) (λx:AV=>x) _ (k:=a) (z:= .d (.v .nilFunc)) underlying237 underlying146 (KeyF.int .u8) q q q kR q (by rw[ag]<;>rfl) (by rw[ag]<;>rfl)) q (Rl 5 q (Zn (Rcc 7 q (bl q (Rcc 3 q (WC.weak (st':=(dT 16 209 198 2)) Tv (WC.sub (env':=[(0, .d (D.i .u8 a)),(1, .n a1),(2, .n b2),(8, .fn (.func 214) [] [.pt 16 0])]) Sb (Rcl 4 q ?_)))))))))
 obtain⟨f4,f6,h⟩:=aD h
 refine WL.inl (us:=[.n a1, .n b2, .pt 16 0]) (λrv st'=>(f4 ()=some r∧Le rv (.tu [.n (f198 a1 b2), .d (D.b true)])∧SLe st' (dT 16 209 198 2))) q q q q q ?_ (Zw q) q q ?_
 refine cI func214 λ_ _ _ _=>?_
 exact Rcl 11 q (wF Z4 (f198_c _ _) Lw Z3 (Rlx 5 q (ar (rs2 q (ay q) (ay q)) ⟨h,(Le.tu Lw),Tv⟩)))
 rintro rv st1 ⟨h,hr,hst⟩
 subst f6
 dsimp only at h
 exact WL.cast 32 q hr (WL.weak hst (Rl 4 q (Zn (Rcx 1 q (FA h)))))
 rcases bJ h with⟨a0,h⟩|⟨a6,h⟩
 refine Rl 1 q (Zq (bt (λx:Int=>Value.int .u8 x) (λx:AV=>x) _ (k:=a) (z:= .d (.v .nilFunc)) underlying237 underlying146 (KeyF.int .u8) q q q kR q (by rw[a0]<;>rfl) (by rw[a0]<;>rfl)) q (Rl 5 q (Zn (Rcc 7 q (bl q (Rcc 3 q (WC.weak (st':=(dT 17 209 199 1)) Tv (WC.sub (env':=[(0, .d (D.i .u8 a)),(1, .n a1),(2, .n b2),(8, .fn (.func 214) [] [.pt 17 0])]) Sb (Rcl 4 q ?_)))))))))
 obtain⟨f7,f8,h⟩:=aD h
 refine WL.inl (us:=[.n a1, .n b2, .pt 17 0]) (λrv st'=>(f7 ()=some r∧Le rv (.tu [.n (f199 a1 b2), .d (D.b true)])∧SLe st' (dT 17 209 199 1))) q q q q q ?_ (Zw q) q q ?_
 refine cI func214 λ_ _ _ _=>?_
 exact Rcl 11 q (wF Z4 (f199_c _ _) Lw Z3 (Rlx 5 q (ar (rs2 q (ay q) (ay q)) ⟨h,(Le.tu Lw),Tv⟩)))
 rintro rv st1 ⟨h,hr,hst⟩
 subst f8
 dsimp only at h
 exact WL.cast 32 q hr (WL.weak hst (Rl 4 q (Zn (Rcx 1 q (FA h)))))
 rcases bJ h with⟨a7,h⟩|⟨a8,h⟩
 refine Rl 1 q (Zq (bt (λx:Int=>Value.int .u8 x) (λx:AV=>x) _ (k:=a) (z:= .d (.v .nilFunc)) underlying237 underlying146 (KeyF.int .u8) q q q kR q (by rw[a7]<;>rfl) (by rw[a7]<;>rfl)) q (Rl 5 q (Zn (Rcc 7 q (bl q (Rcc 3 q (WC.weak (st':=(dT 18 209 200 0)) Tv (WC.sub (env':=[(0, .d (D.i .u8 a)),(1, .n a1),(2, .n b2),(8, .fn (.func 214) [] [.pt 18 0])]) Sb (Rcl 4 q ?_)))))))))
 obtain⟨gl,gm,h⟩:=aD h
 refine WL.inl (us:=[.n a1, .n b2, .pt 18 0]) (λrv st'=>(gl ()=some r∧Le rv (.tu [.n (f200 a1 b2), .d (D.b true)])∧SLe st' (dT 18 209 200 0))) q q q q q ?_ (Zw q) q q ?_
 refine cI func214 λ_ _ _ _=>?_
 exact Rcl 11 q (wF Z4 (f200_c _ _) Lw Z3 (Rlx 5 q (ar (rs2 q (ay q) (ay q)) ⟨h,(Le.tu Lw),Tv⟩)))
 rintro rv st1 ⟨h,hr,hst⟩
 subst gm
 dsimp only at h
 exact WL.cast 32 q hr (WL.weak hst (Rl 4 q (Zn (Rcx 1 q (FA h)))))
 refine Rl 1 q (Zq (bt (λx:Int=>Value.int .u8 x) (λx:AV=>x) _ (k:=a) (z:= .d (.v .nilFunc)) underlying237 underlying146 (KeyF.int .u8) q q q kR q (by rw[show cD _ a=none from(aQ t (aQ y (aQ B (aQ E (aQ G (aQ I (aQ K (aQ M (aQ O (aQ Q (aQ S (aQ U (aQ W (aQ Y (aQ ad (aQ ax (aQ a6 (aQ a8 mx))))))))))))))))))]<;>rfl) (by rw[show cD _ a=none from(aQ t (aQ y (aQ B (aQ E (aQ G (aQ I (aQ K (aQ M (aQ O (aQ Q (aQ S (aQ U (aQ W (aQ Y (aQ ad (aQ ax (aQ a6 (aQ a8 mx))))))))))))))))))]<;>rfl)) q (Rl 5 q ?_))
 exact Zn (Rcc 7 q (cw q (Rcx 8 q (FA h))))

theorem f88_c(tR:Nat→Int)(tP:Int)(tX:Int)(tD:Int)(mI:List ap)(mH:List ak)(mO:List Obj)(mE:Int)(mN:List Int)(mS:List (List Int))(mU:List Int)(tA:List Act)(x1:ap){vo:Nat}{vf:Nat}{vu:Nat}{va:Nat}{r:Rs ((Nat→Int)×Int×Int×Int)}(h:f88 tR tP tX tD mI mH mO mE mN mS mU tA x1=some r):CtrP prog 88 [.pt 0 0, .d (.ag (R45 x1))] (wT tR tP tX tD va mI mH mO mE vo mN vu vf mS mU tA) (dE 6 (λr' new=>∃(z:(Nat→Int)×Int×Int×Int),r= .ok z∧r'= .d (.tu [])∧new=[.row 116 (([.pt 1 0]:List AV)++(aY 16 (λj=> .n (z.1 j))++([.n z.2.1, .n z.2.2.1, .n z.2.2.2, .os 5 va]:List AV):List AV)), .row 90 (mR mI mH mO mE 2 vo mN 4 vu),oS vo 3 vf mS,fS vf mS,uS vu mU, .os 58 6 va (eM R58 tA)])) (eP 6 (λc new=>∃(ee:Int),r= .bad ee∧c=de ee∧new=(wD mI mH mO mE vo mN vu vf mS mU))):=by
 unfold f88 at h
 refine bM func88 kR q q q (λmm φφ ww hmm=>?_)
 refine Rcl 2 q (Bd q q (Zs _) q (Rlc 3 q (an kR kR (Rq 10 q ?_))))
 replace h:=aE h
 obtain⟨e,h⟩:=h
 refine WQ.qn (aB dI q q (bw e) (bv e)) q (WQ.qn (cv (off:=1) (n:=16) (λj=> .n (tR j)) q q a2 q e) q (Rq 6 q ?_))
 replace h:=aE h
 obtain⟨f,h⟩:=h
 refine WQ.qn (aB dI q q (bw f) (bv f)) q (WQ.qn (cv (off:=1) (n:=16) (λj=> .n (tR j)) q q a2 q f) q ?_)
 obtain⟨g,p,h⟩:=ac h
 refine WQ.q (YieldsQ.fn q q q q q (f132_c _ _ _ p) Lw) (Zw q) q q (Rq 5 q (WQ.nil (Rxc 8 q (Ci h q (λh=>?_) (λh=>?_)))))
 refine aG (WLP.wing [] q q q q (f102_c (r:=Rs.bad 280) q) Zt q dC q Zt q q (Zw q) q q (λr' new hS=>?_) (λc new hS=>?_))
 obtain⟨z9,hz,_⟩:=hS
 cases hz
 obtain⟨z9,hz,rfl,rfl⟩:=hS
 obtain rfl:=Rs.bad.inj hz
 refine⟨_,q,q,?_⟩
 refine bi ?_
 obtain rfl:=Oi h
 exact bj (new:=(wD mI mH mO mE vo mN vu vf mS mU)) q ⟨Zt,Zp,Zf,Zf,Zf,Zt,Zt⟩ ⟨_,q,q,q⟩
 refine Rcc 3 q ?_
 replace h:=aE h
 obtain⟨k,h⟩:=h
 apply RT [_,_,_,_,_,_,_,_, .u] [8] [[.row 116 (([.pt 1 0]:List AV)++(aY 16 (λj=> .n ((bz tR (Int.toNat x1.d) g.1) j))++([.n tP, .n tX, .n tD, .os 5 va]:List AV):List AV)), .row 90 (mR mI mH mO mE 2 vo mN 4 vu),oS vo 3 vf mS,fS vf mS,uS vu mU, .os 58 6 va (eM R58 tA)]] [p01 0,p01 3,p10 1,p01 4,p10 0,p10 4,p10 5,p20 6 2,p20 7 3] kR kR q q
 refine Y7 ?_
 refine zo (λ_=>Zq (aB dI q q (bw k) (bv k)) q (Zd q q q)) ?_
 exact zo (λ_=>WL.s0 (cZ (off:=1) (n:=16) (cs':=(([.pt 1 0]:List AV)++(aY 16 (λj=> .n ((bz tR (Int.toNat x1.d) g.1) j))++([.n tP, .n tX, .n tD, .os 5 va]:List AV):List AV))) (λx=> .n x) tR g.1 q q q (eT q) s2 q q k q) (Zw q) q (aT q q)) Zt
 refine Rxc 1 q (aG (WLP.pre 1 (Rl 1 q (WL.nil ?_))))
 obtain⟨t,m,h⟩:=ac h
 rcases t with a|w
 dsimp only[Rs.cs] at h
 refine WLP.wing [0,1,2,3,4,5] q q q q (f131_c _ _ _ _ _ _ _ _ _ _ _ _ m) Lw q dC (Re (Re (Rg (Rf (Ro (Ro q)))))) ⟨q,q,q,q,q,q,Zt⟩ Kv q (Zw q) q q (λr' new hS=>?_) (λc new hS=>?_)
 obtain⟨z9,hz,rfl,rfl⟩:=hS
 obtain rfl:=Rs.ok.inj hz
 refine⟨_,_,q,(Re (Re (Rg (Rf (Ro (Ro q)))))),q,Kv,WLP.of ?_⟩
 refine St q (WL.nil (cq ?_))
 obtain rfl:=Oi h
 exact WE.finP (aJ (new:=[.row 116 (([.pt 1 0]:List AV)++(aY 16 (λj=> .n (a.1 j))++([.n a.2.1, .n a.2.2.1, .n a.2.2.2, .os 5 va]:List AV):List AV)), .row 90 (mR mI mH mO mE 2 vo mN 4 vu),oS vo 3 vf mS,fS vf mS,uS vu mU, .os 58 6 va (eM R58 tA)]) (r0:= .d (.tu [])) (dp q) (aV Zt) q ⟨Zp,Zp,Zf,Zf,Zf,Zf,Zt⟩ ⟨_,q,q,q⟩)
 obtain⟨z9,hz,_⟩:=hS
 cases hz
 dsimp only[Rs.cs] at h
 refine WLP.wing [0,1,2,3,4,5] q q q q (f131_c _ _ _ _ _ _ _ _ _ _ _ _ m) Lw q dC (Re (Re (Rg (Rf (Ro (Ro q)))))) ⟨q,q,q,q,q,q,Zt⟩ Kv q (Zw q) q q (λr' new hS=>?_) (λc new hS=>?_)
 obtain⟨z9,hz,_⟩:=hS
 cases hz
 obtain⟨z9,hz,rfl,rfl⟩:=hS
 obtain rfl:=Rs.bad.inj hz
 refine⟨_,(Re (Re (Rg (Rf (Ro (Re q)))))),Kv,?_⟩
 refine cX (st':=(wD mI mH mO mE vo mN vu vf mS mU)) q ?_
 obtain rfl:=Oi h
 exact bj (new:=(wD mI mH mO mE vo mN vu vf mS mU)) q ⟨Zt,Zp,Zf,Zf,Zf,Zt,Zt⟩ ⟨_,q,q,q⟩

theorem f47_c(mI:List ap)(mH:List ak)(mO:List Obj)(mE:Int)(mN:List Int)(mS:List (List Int))(mU:List Int){vo:Nat}{vf:Nat}{vu:Nat}{r:Bool}(h:f47 mI mH mO mE mN mS mU=some r):Ctr prog 47 [.pt 0 0] (wM mI mH mO mE vo mN vu vf mS mU) (dE 4 (λr' new=>r'= .d (.b r)∧new=(wM mI mH mO mE vo mN vu vf mS mU))):=by
 unfold f47 at h
 refine cI func47 λ_ _ _ hmm=>?_
 refine Rcl 8 q (Zq (vh underlying46 q) q (Rl 5 q (Zy (ab E45 mI e23 q q Zl) q q q (Rlx 6 q ?_))))
 obtain rfl:=Oi h
 exact aJ (new:=(wM mI mH mO mE vo mN vu vf mS mU)) (r0:= .d (.b (decide ((List.length mI:Int)=0)))) (rs1 q (ay q)) Zl q ⟨Zp,Zf,Zf,Zf,Zt⟩ ⟨q,q⟩

theorem f46_c(tR:Nat→Int)(tP:Int)(tX:Int)(tD:Int)(mI:List ap)(mH:List ak)(mO:List Obj)(mE:Int)(mN:List Int)(mS:List (List Int))(mU:List Int)(tA:List Act)(o1:Int){vo:Nat}{vf:Nat}{vu:Nat}{va:Nat}{r:Nat}(h:f46 tR tP tX tD mI mH mO mE mN mS mU tA o1=some r):Ctr prog 46 [.pt 0 0, .d (D.i .u8 o1)] (wT tR tP tX tD va mI mH mO mE vo mN vu vf mS mU tA) (dE 6 (λr' new=>r'= .fn (.func r) [.pt 0 0] []∧new=(wT tR tP tX tD va mI mH mO mE vo mN vu vf mS mU tA))):=by
 unfold f46 at h
 refine cI func46 λ_ _ _ hmm=>?_
 refine Rcc 12 q (Jn1 (λa=> [(0, .pt 0 0),(5, .d (D.i .u8 o1)),(6, .d (D.b a))]) (λ_=>(wT tR tP tX tD va mI mH mO mE vo mN vu vf mS mU tA)) h (λ_ h=>?_) (λa h=>?_))
 refine Rcc 6 q (Ci h q (λh=>?_) (λh=>?_))
 exact Rcx 1 q (En1 h)
 refine Rcc 6 q (Ci h q (λh=>?_) (λh=>?_))
 exact Rcx 1 q (En1 h)
 exact Rcx 4 q (En1 h)
 refine Ci h q (λh=>?_) (λh=>?_)
 refine Rcx 10 q ?_
 obtain rfl:=Oi h
 exact aJ (new:=(wT tR tP tX tD va mI mH mO mE vo mN vu vf mS mU tA)) (r0:= .fn (.func 81) [.pt 0 0] []) (rs1 q (ay q)) Zl q ⟨Zp,Zp,Zf,Zf,Zf,Zf,Zt⟩ ⟨q,q⟩
 refine Jn1 (λc=> [(0, .pt 0 0),(5, .d (D.i .u8 o1)),(12, .d (D.b c))]) (λ_=>(wT tR tP tX tD va mI mH mO mE vo mN vu vf mS mU tA)) h (λ_ h=>?_) (λc h=>?_)
 refine Rcc 6 q (Ci h q (λh=>?_) (λh=>?_))
 exact Rcx 1 q (En1 h)
 refine Rcc 6 q (Ci h q (λh=>?_) (λh=>?_))
 exact Rcx 1 q (En1 h)
 exact Rcx 4 q (En1 h)
 refine Ci h q (λh=>?_) (λh=>?_)
 refine Rcx 10 q ?_
 obtain rfl:=Oi h
 exact aJ (new:=(wT tR tP tX tD va mI mH mO mE vo mN vu vf mS mU tA)) (r0:= .fn (.func 82) [.pt 0 0] []) (rs1 q (ay q)) Zl q ⟨Zp,Zp,Zf,Zf,Zf,Zf,Zt⟩ ⟨q,q⟩
 refine Jn1 (λe=> [(0, .pt 0 0),(5, .d (D.i .u8 o1)),(18, .d (D.b e))]) (λ_=>(wT tR tP tX tD va mI mH mO mE vo mN vu vf mS mU tA)) h (λ_ h=>?_) (λe h=>?_)
 refine Rcc 6 q (Ci h q (λh=>?_) (λh=>?_))
 exact Rcx 1 q (En1 h)
 refine Rcc 6 q (Ci h q (λh=>?_) (λh=>?_))
 exact Rcx 1 q (En1 h)
 refine Rcc 6 q (Ci h q (λh=>?_) (λh=>?_))
 exact Rcx 1 q (En1 h)
 exact Rcx 4 q (En1 h)
 refine Ci h q (λh=>?_) (λh=>?_)
 refine Rcx 10 q ?_
 obtain rfl:=Oi h
 exact aJ (new:=(wT tR tP tX tD va mI mH mO mE vo mN vu vf mS mU tA)) (r0:= .fn (.func 83) [.pt 0 0] []) (rs1 q (ay q)) Zl q ⟨Zp,Zp,Zf,Zf,Zf,Zf,Zt⟩ ⟨q,q⟩
 refine Jn1 (λf=> [(0, .pt 0 0),(5, .d (D.i .u8 o1)),(25, .d (D.b f))]) (λ_=>(wT tR tP tX tD va mI mH mO mE vo mN vu vf mS mU tA)) h (λ_ h=>?_) (λf h=>?_)
 refine Rcc 6 q (Ci h q (λh=>?_) (λh=>?_))
 exact Rcx 1 q (En1 h)
 exact Rcx 4 q (En1 h)
 refine Ci h q (λh=>?_) (λh=>?_)
 refine Rcx 10 q ?_
 obtain rfl:=Oi h
 exact aJ (new:=(wT tR tP tX tD va mI mH mO mE vo mN vu vf mS mU tA)) (r0:= .fn (.func 84) [.pt 0 0] []) (rs1 q (ay q)) Zl q ⟨Zp,Zp,Zf,Zf,Zf,Zf,Zt⟩ ⟨q,q⟩
 refine Jn1 (λg=> [(0, .pt 0 0),(5, .d (D.i .u8 o1)),(30, .d (D.b g))]) (λ_=>(wT tR tP tX tD va mI mH mO mE vo mN vu vf mS mU tA)) h (λ_ h=>?_) (λg h=>?_)
 refine Rcc 6 q (Ci h q (λh=>?_) (λh=>?_))
 exact Rcx 1 q (En1 h)
 refine Rcc 6 q (Ci h q (λh=>?_) (λh=>?_))
 exact Rcx 1 q (En1 h)
 exact Rcx 4 q (En1 h)
 refine Ci h q (λh=>?_) (λh=>?_)
 refine Rcx 10 q ?_
 obtain rfl:=Oi h
 exact aJ (new:=(wT tR tP tX tD va mI mH mO mE vo mN vu vf mS mU tA)) (r0:= .fn (.func 85) [.pt 0 0] []) (rs1 q (ay q)) Zl q ⟨Zp,Zp,Zf,Zf,Zf,Zf,Zt⟩ ⟨q,q⟩
 refine Jn1 (λj=> [(0, .pt 0 0),(5, .d (D.i .u8 o1)),(36, .d (D.b j))]) (λ_=>(wT tR tP tX tD va mI mH mO mE vo mN vu vf mS mU tA)) h (λ_ h=>?_) (λj h=>?_)
 refine Rcc 6 q (Ci h q (λh=>?_) (λh=>?_))
 exact Rcx 1 q (En1 h)
 refine Rcc 6 q (Ci h q (λh=>?_) (λh=>?_))
 exact Rcx 1 q (En1 h)
 exact Rcx 4 q (En1 h)
 refine Ci h q (λh=>?_) (λh=>?_)
 refine Rcx 10 q ?_
 obtain rfl:=Oi h
 exact aJ (new:=(wT tR tP tX tD va mI mH mO mE vo mN vu vf mS mU tA)) (r0:= .fn (.func 86) [.pt 0 0] []) (rs1 q (ay q)) Zl q ⟨Zp,Zp,Zf,Zf,Zf,Zf,Zt⟩ ⟨q,q⟩
 refine Jn1 (λk=> [(0, .pt 0 0),(42, .d (D.b k))]) (λ_=>(wT tR tP tX tD va mI mH mO mE vo mN vu vf mS mU tA)) h (λ_ h=>?_) (λk h=>?_)
 refine Rcc 6 q (Ci h q (λh=>?_) (λh=>?_))
 exact Rcx 1 q (En1 h)
 refine Rcc 6 q (Ci h q (λh=>?_) (λh=>?_))
 exact Rcx 1 q (En1 h)
 refine Rcc 6 q (Ci h q (λh=>?_) (λh=>?_))
 exact Rcx 1 q (En1 h)
 refine Rcc 6 q (Ci h q (λh=>?_) (λh=>?_))
 exact Rcx 1 q (En1 h)
 exact Rcx 4 q (En1 h)
 refine Ci h q (λh=>?_) (λh=>?_)
 refine Rcx 10 q ?_
 obtain rfl:=Oi h
 exact aJ (new:=(wT tR tP tX tD va mI mH mO mE vo mN vu vf mS mU tA)) (r0:= .fn (.func 87) [.pt 0 0] []) (rs1 q (ay q)) Zl q ⟨Zp,Zp,Zf,Zf,Zf,Zf,Zt⟩ ⟨q,q⟩
 refine Rcx 11 q ?_
 obtain rfl:=Oi h
 exact aJ (new:=(wT tR tP tX tD va mI mH mO mE vo mN vu vf mS mU tA)) (r0:= .fn (.func 88) [.pt 0 0] []) (rs1 q (ay q)) Zl q ⟨Zp,Zp,Zf,Zf,Zf,Zf,Zt⟩ ⟨q,q⟩

theorem fm_c(n:Nat)(tR:Nat→Int)(tP:Int)(tX:Int)(tD:Int)(mI:List ap)(mH:List ak)(mO:List Obj)(mE:Int)(mN:List Int)(mS:List (List Int))(mU:List Int)(tA:List Act)(x:ap){vo vf vu va:Nat}{r:Rs ((Nat→Int)×Int×Int×Int×(List Int)×(List (List Int))×(List Int)×(List Act))}(h:fm n tR tP tX tD mI mH mO mE mN mS mU tA x=some r):CtrP prog n [.pt 0 0, .d (.ag (R45 x))] (wT tR tP tX tD va mI mH mO mE vo mN vu vf mS mU tA) (dE 6 (λr' new=>∃(z:(Nat→Int)×Int×Int×Int×(List Int)×(List (List Int))×(List Int)×(List Act))(i3 i4 i5:Nat),r= .ok z∧r'= .d (.tu [])∧new=[.row 116 (([.pt 1 0]:List AV)++(aY 16 (λj=> .n (z.1 j))++([.n z.2.1, .n z.2.2.1, .n z.2.2.2.1, .os 5 i5]:List AV):List AV)), .row 90 (mR mI mH mO mE 2 vo z.2.2.2.2.1 4 i4), .os 42 1 vo (br 3 i3 (List.length z.2.2.2.2.2.1)), .fam 2 1 i3 (bn E2 z.2.2.2.2.2.1), .os 2 1 i4 (eM E2 z.2.2.2.2.2.2.1), .os 58 6 i5 (eM R58 z.2.2.2.2.2.2.2)])) (eP 6 (λc new=>∃(ee:Int),r= .bad ee∧c=de ee∧new=(wD mI mH mO mE vo mN vu vf mS mU))):=by
 unfold fm at h
 rcases du h with⟨hn,h⟩|⟨_,h⟩
 have hn:=Nat.eq_of_beq_eq_true hn
 subst hn
 obtain⟨r0,hr,h⟩:=ac h
 obtain rfl:=Oi h
 refine CtrP.mono (f81_c _ _ _ _ _ _ _ _ _ _ _ _ _ hr) ?_ ?_
 rintro r1 st1 ⟨hk,z,hz,a,hst⟩
 subst hz
 exact⟨hk,_,vf,vu,va,q,a,hst⟩
 rintro c st1 ⟨hk,ee,hz,hc,hst⟩
 subst hz
 exact⟨hk,_,q,hc,hst⟩
 rcases du h with⟨hn,h⟩|⟨_,h⟩
 have hn:=Nat.eq_of_beq_eq_true hn
 subst hn
 obtain⟨r0,hr,h⟩:=ac h
 obtain rfl:=Oi h
 refine CtrP.mono (f82_c _ _ _ _ _ _ _ _ _ _ _ _ _ hr) ?_ ?_
 rintro r1 st1 ⟨hk,z,j3,hz,a,hst⟩
 subst hz
 exact⟨hk,_,j3,vu,va,q,a,hst⟩
 rintro c st1 ⟨hk,ee,hz,hc,hst⟩
 subst hz
 exact⟨hk,_,q,hc,hst⟩
 rcases du h with⟨hn,h⟩|⟨_,h⟩
 have hn:=Nat.eq_of_beq_eq_true hn
 subst hn
 obtain⟨r0,hr,h⟩:=ac h
 obtain rfl:=Oi h
 refine CtrP.mono (f83_c _ _ _ _ _ _ _ _ _ _ _ _ _ hr) ?_ ?_
 rintro r1 st1 ⟨hk,z,hz,a,hst⟩
 subst hz
 exact⟨hk,_,vf,vu,va,q,a,hst⟩
 rintro c st1 ⟨hk,ee,hz,hc,hst⟩
 subst hz
 exact⟨hk,_,q,hc,hst⟩
 rcases du h with⟨hn,h⟩|⟨_,h⟩
 have hn:=Nat.eq_of_beq_eq_true hn
 subst hn
 obtain⟨r0,hr,h⟩:=ac h
 obtain rfl:=Oi h
 refine CtrP.mono (f84_c _ _ _ _ _ _ _ _ _ _ _ _ _ hr) ?_ ?_
 rintro r1 st1 ⟨hk,z,j5,hz,a,hst⟩
 subst hz
 exact⟨hk,_,vf,vu,j5,q,a,hst⟩
 rintro c st1 ⟨hk,ee,hz,hc,hst⟩
 subst hz
 exact⟨hk,_,q,hc,hst⟩
 rcases du h with⟨hn,h⟩|⟨_,h⟩
 have hn:=Nat.eq_of_beq_eq_true hn
 subst hn
 obtain⟨r0,hr,h⟩:=ac h
 obtain rfl:=Oi h
 refine CtrP.mono (f85_c _ _ _ _ _ _ _ _ _ _ _ _ _ hr) ?_ ?_
 rintro r1 st1 ⟨hk,z,j5,hz,a,hst⟩
 subst hz
 exact⟨hk,_,vf,vu,j5,q,a,hst⟩
 rintro c st1 ⟨hk,ee,hz,hc,hst⟩
 subst hz
 exact⟨hk,_,q,hc,hst⟩
 rcases du h with⟨hn,h⟩|⟨_,h⟩
 have hn:=Nat.eq_of_beq_eq_true hn
 subst hn
 obtain⟨r0,hr,h⟩:=ac h
 obtain rfl:=Oi h
 refine CtrP.mono (f86_c _ _ _ _ _ _ _ _ _ _ _ _ _ hr) ?_ ?_
 rintro r1 st1 ⟨hk,z,j4,j5,hz,a,hst⟩
 subst hz
 exact⟨hk,_,vf,j4,j5,q,a,hst⟩
 rintro c st1 ⟨hk,ee,hz,hc,hst⟩
 subst hz
 exact⟨hk,_,q,hc,hst⟩
 rcases du h with⟨hn,h⟩|⟨_,h⟩
 have hn:=Nat.eq_of_beq_eq_true hn
 subst hn
 obtain⟨r0,hr,h⟩:=ac h
 obtain rfl:=Oi h
 refine CtrP.mono (f87_c _ _ _ _ _ _ _ _ _ _ _ _ _ hr) ?_ ?_
 rintro r1 st1 ⟨hk,z,hz,a,hst⟩
 subst hz
 exact⟨hk,_,vf,vu,va,q,a,hst⟩
 rintro c st1 ⟨hk,ee,hz,hc,hst⟩
 subst hz
 exact⟨hk,_,q,hc,hst⟩
 rcases du h with⟨hn,h⟩|⟨_,h⟩
 have hn:=Nat.eq_of_beq_eq_true hn
 subst hn
 obtain⟨r0,hr,h⟩:=ac h
 obtain rfl:=Oi h
 refine CtrP.mono (f88_c _ _ _ _ _ _ _ _ _ _ _ _ _ hr) ?_ ?_
 rintro r1 st1 ⟨hk,z,hz,a,hst⟩
 subst hz
 exact⟨hk,_,vf,vu,va,q,a,hst⟩
 rintro c st1 ⟨hk,ee,hz,hc,hst⟩
 subst hz
 exact⟨hk,_,q,hc,hst⟩
 cases h

theorem f45_c(tR:Nat→Int)(tP:Int)(tX:Int)(tD:Int)(mI:List ap)(mH:List ak)(mO:List Obj)(mE:Int)(mN:List Int)(mS:List (List Int))(mU:List Int)(tA:List Act){vo:Nat}{vf:Nat}{vu:Nat}{va:Nat}{r:Rs ((Nat→Int)×Int×Int×Int×(List Int)×(List (List Int))×(List Int)×(List Act))}(h:f45 tR tP tX tD mI mH mO mE mN mS mU tA=some r):CtrP prog 45 [.pt 0 0] (wT tR tP tX tD va mI mH mO mE vo mN vu vf mS mU tA) (dE 6 (λr' new=>∃(z:(Nat→Int)×Int×Int×Int×(List Int)×(List (List Int))×(List Int)×(List Act))(i3 i4 i5:Nat),r= .ok z∧r'= .d (.tu [])∧new=[.row 116 (([.pt 1 0]:List AV)++(aY 16 (λj=> .n (z.1 j))++([.n z.2.1, .n z.2.2.1, .n z.2.2.2.1, .os 5 i5]:List AV):List AV)), .row 90 (mR mI mH mO mE 2 vo z.2.2.2.2.1 4 i4), .os 42 1 vo (br 3 i3 (List.length z.2.2.2.2.2.1)), .fam 2 1 i3 (bn E2 z.2.2.2.2.2.1), .os 2 1 i4 (eM E2 z.2.2.2.2.2.2.1), .os 58 6 i5 (eM R58 z.2.2.2.2.2.2.2)])) (eP 6 (λc new=>∃(ee:Int),r= .bad ee∧c=de ee∧new=(wD mI mH mO mE vo mN vu vf mS mU))):=by
 unfold f45 at h
 refine bM func45 kR q q q (λmm φφ ww hmm=>?_)
 refine Rcc 1 q ?_
 obtain⟨e,g,h⟩:=ac h
 apply RT [_,_,_,_,_,_,_,_,_,_,_,_,_,_,_, .u] [14,15] [[.row 116 (tQ 1 tR tP tX tD 5 va), .row 90 (mR mI mH mO mE 2 vo mN 4 vu),oS vo 3 vf mS,fS vf mS,uS vu mU, .os 58 6 va (eM R58 tA), .row 45 [.d (D.i .u8 0), .n 0, .n 0, .n 0, .n 0, .n 0, .n 0]],[.row 116 (tQ 1 tR tP tX tD 5 va), .row 90 (mR mI mH mO mE 2 vo mN 4 vu),oS vo 3 vf mS,fS vf mS,uS vu mU, .os 58 6 va (eM R58 tA), .row 45 [.d (D.i .u8 e.op), .n e.d, .n e.a, .n e.b, .n e.n, .n e.m, .n e.to]]] [u01 0,u10 0,u10 1,u10 2,u10 3,u10 4,u10 5,u01 0,u10 7,u10 8,u10 9,u10 10,u20 6 11,u10 12,p00,q20 14 13 1] kR kR q q
 refine X2d ?_
 refine X2d ?_
 refine X2d ?_
 refine⟨⟨λ_=>Zq (ah e23 q Zl q (af g) (av dg g) q) q (Zd q q q),λ_=>Zq (ah e23 q Zl q (af g) (av dg g) q) q (Zd q q q),Zt⟩,?_⟩
 refine X2a ?_
 refine zo (λ_=>Al z45 q (Zd q q q)) ?_
 exact zo (λ_=>sS Z6 s45 Z2 (aT q q)) Zt
 refine Rxl 6 q (wF Z4 (f36_c _) Lw Z3 (Rlc 3 q (Ci h q (λh=>?_) (λh=>?_))))
 refine aG (WLP.pre 2 (Zq (aa p118 vc q q) q (Zq (gy (p:= .ag (R118 (oL.mk 8))) kR q (aj (Zs _))) q (WL.nil (qu q q (bi ?_))))))
 obtain rfl:=Oi h
 exact bj (new:=(wD mI mH mO mE vo mN vu vf mS mU)) q ⟨Zt,Zp,Zf,Zf,Zf,Zt,Zt⟩ ⟨_,q,q,q⟩
 refine Rcc 2 q ?_
 obtain⟨x,t,h⟩:=ac h
 apply kM [_,_,_,_,_, .u] [[],[],[1],[0,1,2],[],[0,1,2,3,4]] [] (λc=>List.getD [[.row 116 (tQ 1 tR tP tX tD 5 va), .row 90 (mR mI mH mO mE 2 vo mN 4 vu),oS vo 3 vf mS,fS vf mS,uS vu mU, .os 58 6 va (eM R58 tA), .row 45 [.d (D.i .u8 e.op), .n e.d, .n e.a, .n e.b, .n e.n, .n e.m, .n e.to]]] c []) [([],[0],[0]),([],[2],[0]),([1],[],[0]),([0,2],[],[0]),([],[2],[0]),([3,4],[],[0])] 5 (l0:=_) (o:=_) (by exact(List.take_append_drop 5 _).symm) q kR kR q q q q
 refine⟨?_,?_,?_,?_,?_,Zt⟩
 exact O1 q (λ_=>q) q q
 exact O1 q (λ_=>q) q q
 exact O1 q (λ_=>q) q q
 refine⟨λF=>?_,Zt⟩
 refine WL.wing [0,1,2,3,4,5] q q q q (f46_c _ _ _ _ _ _ _ _ _ _ _ _ _ t) Lw q dC (Re (Re (Rg (Rf (Ro (Ro q)))))) ⟨q,q,q,q,q,q,Zt⟩ Kv q (Zw q) q q (λr' new hS=>?_)
 obtain⟨rfl,rfl⟩:=hS
 refine⟨_,_,q,(Re (Re (Rg (Rf (Ro (Ro q)))))),q,Kv,?_⟩
 exact Zd q q q
 exact O1 q (λ_=>q) q q
 obtain⟨w,k,h⟩:=ac h
 rcases w with f|e36
 dsimp only[Rs.cs] at h
 refine WLP.wing [0,1,2,3,4,5] q q q q (fm_c _ _ _ _ _ _ _ _ _ _ _ _ _ _ k) ⟨Zl,(aj (Zs _)),Zt⟩ q dC (Re (Re (Rg (Rf (Ro (Ro q)))))) ⟨q,q,q,q,q,q,Zt⟩ Kv q (Zw q) q q (λr' new hS=>?_) (λc new hS=>?_)
 obtain⟨z9,i3_37,i4_37,i5_37,hz,rfl,rfl⟩:=hS
 obtain rfl:=Rs.ok.inj hz
 refine⟨_,_,q,(Re (Re (Rg (Rf (Ro (Ro q)))))),q,Kv,WLP.of ?_⟩
 refine St q (WL.nil (cq ?_))
 obtain rfl:=Oi h
 exact WE.finP (aJ (new:=[.row 116 (([.pt 1 0]:List AV)++(aY 16 (λj=> .n (f.1 j))++([.n f.2.1, .n f.2.2.1, .n f.2.2.2.1, .os 5 i5_37]:List AV):List AV)), .row 90 (mR mI mH mO mE 2 vo f.2.2.2.2.1 4 i4_37), .os 42 1 vo (br 3 i3_37 (List.length f.2.2.2.2.2.1)), .fam 2 1 i3_37 (bn E2 f.2.2.2.2.2.1), .os 2 1 i4_37 (eM E2 f.2.2.2.2.2.2.1), .os 58 6 i5_37 (eM R58 f.2.2.2.2.2.2.2)]) (r0:= .d (.tu [])) (dp q) (aV Zt) q ⟨Zp,Zp,Zf,Zf,Zf,Zf,Zt⟩ ⟨_,i3_37,i4_37,i5_37,q,q,q⟩)
 obtain⟨z9,hz,_⟩:=hS
 cases hz
 dsimp only[Rs.cs] at h
 refine WLP.wing [0,1,2,3,4,5] q q q q (fm_c _ _ _ _ _ _ _ _ _ _ _ _ _ _ k) ⟨Zl,(aj (Zs _)),Zt⟩ q dC (Re (Re (Rg (Rf (Ro (Ro q)))))) ⟨q,q,q,q,q,q,Zt⟩ Kv q (Zw q) q q (λr' new hS=>?_) (λc new hS=>?_)
 obtain⟨z9,i3_37,i4_37,i5_37,hz,_⟩:=hS
 cases hz
 obtain⟨z9,hz,rfl,rfl⟩:=hS
 obtain rfl:=Rs.bad.inj hz
 refine⟨_,(Re (Re (Rg (Rf (Ro (Re q)))))),Kv,?_⟩
 refine cX (st':=[.z, .row 90 (mR mI mH mO mE 2 vo mN 4 vu),oS vo 3 vf mS,fS vf mS,uS vu mU, .z, .row 45 [.d (D.i .u8 e.op), .n e.d, .n e.a, .n e.b, .n e.n, .n e.m, .n e.to]]) q ?_
 obtain rfl:=Oi h
 exact bj (new:=(wD mI mH mO mE vo mN vu vf mS mU)) q ⟨Zt,Zp,Zf,Zf,Zf,Zt,Zt⟩ ⟨_,q,q,q⟩

theorem se{a b c:AV}{st:List AO}:DSp prog 80 [a,b,c] st .returning .returning st:=by
 refine mJ (v:= .nilIface) (va:= .d (.v .nilIface)) func80 kR q q q q q (λc0 cs hu=>?_) (λ_ _ _=>by simp[RA,RD]) (λmm φφ ww hmm=>?_)
 right
 refine⟨?_,q,q⟩
 simp[recoverD,hu]
 exact WC.sub (env':=[(6, .d (.v .nilIface)),(0, .u),(1, .u),(2, .u)]) (Sx q (Sub.cons q (Le.u _) (Sub.cons q (Le.u _) (Sub.cons q (Le.u _) (Sub.nil _))))) (Rcl 3 q (Zq (tI kR q) q (Rlc 2 q (cw q (Rcx 4 q (cQ (SLe.refl _)))))))

theorem sf{e:Int}:DSp prog 80 [.pt 0 0, .pt 1 0, .pt 2 0] [.row 41 n19, .row 50 [sN], .row 47 [.n 0]] (.panicking (de e)) (.panicking [{ v:= .iface 118 (.agg ⟨[.int .i64 e]⟩),recovered:=true }]) [.row 41 n19, .row 50 [sN], .row 47 [.n e]]:=by
 refine mJ (v:= .iface 118 (.agg ⟨[.int .i64 e]⟩)) (va:= .d (.ifc 118 (.ag [D.i .i64 e]))) func80 kR q q q q q (λc0 cs hu=>?_) (λ_ _ _=>ui q) (λmm φφ ww hmm=>?_)
 left
 refine⟨_,?_,q⟩
 simp[recoverD,hu,de]
 refine Rcl 3 q (Zq (tJ kR q) q (Rlc 2 q (bl q (Rcl 2 q (Zq (qH kR q) q (Rlc 4 q (cw q (Rcl 2 q (Al vc q (sS Z6 s118 Z2 (Rlc 2 q ?_)))))))))))
 apply RT [_,_,_, .u, .u, .u] [5] [[.row 41 n19, .row 50 [sN], .row 47 [.n ((oL.mk e).e)], .row 118 [.n ((oL.mk e).e)]]] [p00,p01 4,p10 1,p11 0 0,p01 1,p11 2 2] kR kR q q
 refine zo (λ_=>Zq (aa p41 z41 q q) q (Zd q q q)) ?_
 refine Y2 ?_
 refine zo (λ_=>sS Z6 s41 Z2 (aT q q)) ?_
 refine zo (λ_=>sS Z6 s50 Z2 (aT q q)) ?_
 exact zo (λ_=>sS Z6 s47 Z2 (aT q q)) Zt
 exact Rxx 1 q (WE.drop 3 (env':=[]) (Sub.nil _) q q (Nat.le_trans (Nat.le_of_eq hmm) (Nat.le_of_ble_eq_true q)) (cQ ⟨OLe.refl _,OLe.refl _,OLe.refl _,Zt⟩))

theorem f44_45_c(mI:List ap)(mH:List ak)(mO:List Obj)(mE:Int)(mN:List Int)(mS:List (List Int))(mU:List Int)(r1:aI)(k:Bool){vo:Nat}{vf:Nat}{vu:Nat}{r:aI×(List Act)×Int×(List Int)×(List (List Int))×(List Int)}(h:f44_45 mI mH mO mE mN mS mU r1 k=some r):Ctr prog 44 [.pt 0 0, .d (.ag (R41 r1)), .d (D.b k), .fn (.func 45) [] []] (wM mI mH mO mE vo mN vu vf mS mU) (dE 4 (λr' new=>∃i2 i3:Nat,r'= .d (.tu [.ag (R41 r.1), .sl (List.map E58 r.2.1), .i .i64 r.2.2.1])∧new=[.row 90 (mR mI mH mO mE 1 vo r.2.2.2.1 3 i3), .os 42 1 vo (br 2 i2 (List.length r.2.2.2.2.1)), .fam 2 1 i2 (bn E2 r.2.2.2.2.1), .os 2 1 i3 (eM E2 r.2.2.2.2.2)])):=by
 unfold f44_45 at h
 refine pP func44 kR q q q (λmm φφ ww hmm=>?_)
 refine Rcl 2 q (Bd q q (Zs _) q (Al z41 q (Al z50 q (Al z47 q (Rll 7 q ?_)))))
 obtain⟨y,w,h⟩:=ac h
 refine WL.wing [0,1,2,3] q q q q (f47_c _ _ _ _ _ _ _ w) Lw q dC (Re (Rg (Rf (Ro q)))) ⟨q,q,q,q,Zt⟩ Kv q (Zw q) q q (λr' new hS=>?_)
 obtain⟨rfl,rfl⟩:=hS
 refine⟨_,_,q,(Re (Rg (Rf (Ro q)))),q,Kv,?_⟩
 refine St q (Rlc 3 q (Ci h q (λh=>?_) (λh=>?_)))
 refine Rcl 2 q (Zq (aa p41 z41 q q) q (sS Z6 s41 Z2 (St q (sS Z6 s50 Z2 (sS Z6 s47 Z2 (Rlx 5 q ?_))))))
 obtain rfl:=Oi h
 exact aJ (new:=(wM mI mH mO mE vo mN vu vf mS mU)) (r0:= .d (.tu [.ag (R41 (aI.mk (λj=>0) 0 0 0)), .sl (List.map E58 []), .i .i64 1])) (rs3 q (bc q q a41 s41 q) (gH q q a50 q) (gH q q a47 q)) (aV ⟨(aj (Zs _)),Le.nil,Zl,Zt⟩) q ⟨Zp,Zf,Zf,Zf,Zt⟩ ⟨vf,vu,q,q⟩
 refine Rcc 1 q (an kR kR (Rq 4 q ?_))
 apply WQ.or 9 (t:=20) (d:=29)
 exact q
 intro A
 exact Rq 6 q (WQ.qy (ab E45 mI e23 q q Zl) q q q (Rq 2 q (WQ.nil ⟨[_,_,_,_,_,_,_,_,_],q,q,q⟩)))
 exact Rq 9 q (WQ.nil ⟨[_,_,_,_,_,_,_,_,_],q,q,q⟩)
 refine Rq 1 q ?_
 apply WQ.or 4 (t:=30) (d:=34)
 exact q
 intro B
 exact Rq 4 q (WQ.nil ⟨[_,_,_,_],q,q,q⟩)
 exact Rq 4 q (WQ.nil ⟨[_,_,_,_],q,q,q⟩)
 refine Rq 1 q ?_
 apply WQ.or 8 (t:=35) (d:=43)
 exact q
 intro C
 exact Rq 8 q (WQ.nil ⟨[_,_,_,_,_,_,_,_],q,q,q⟩)
 exact Rq 8 q (WQ.nil ⟨[_,_,_,_,_,_,_,_],q,q,q⟩)
 refine Rq 1 q ?_
 apply WQ.or 4 (t:=44) (d:=48)
 exact q
 intro E
 exact Rq 4 q (WQ.nil ⟨[_,_,_,_],q,q,q⟩)
 exact Rq 4 q (WQ.nil ⟨[_,_,_,_],q,q,q⟩)
 refine Rq 1 q ?_
 apply WQ.or 4 (t:=49) (d:=53)
 exact q
 intro F
 exact Rq 4 q (WQ.nil ⟨[_,_,_,_],q,q,q⟩)
 exact Rq 4 q (WQ.nil ⟨[_,_,_,_],q,q,q⟩)
 refine Rq 1 q ?_
 apply WQ.or 3 (t:=54) (d:=57)
 exact q
 intro G
 exact Rq 3 q (WQ.nil ⟨[_,_,_],q,q,q⟩)
 exact Rq 3 q (WQ.nil ⟨[_,_,_],q,q,q⟩)
 refine Rq 1 q (WQ.nil (Rxc 1 q (Ci h q (λh=>?_) (λh=>?_))))
 refine Rcl 2 q (Zq (aa p41 z41 q q) q (sS Z6 s41 Z2 (St q (sS Z6 s50 Z2 (sS Z6 s47 Z2 (Rlx 5 q ?_))))))
 obtain rfl:=Oi h
 exact aJ (new:=(wM mI mH mO mE vo mN vu vf mS mU)) (r0:= .d (.tu [.ag (R41 (aI.mk (λj=>0) 0 0 0)), .sl (List.map E58 []), .i .i64 2])) (rs3 q (bc q q a41 s41 q) (gH q q a50 q) (gH q q a47 q)) (aV ⟨(aj (Zs _)),Le.nil,Zl,Zt⟩) q ⟨Zp,Zf,Zf,Zf,Zt⟩ ⟨vf,vu,q,q⟩
 refine Rcc 4 q (qQ (f:=80) (caps:=[.pt 4 0, .pt 5 0, .pt 6 0]) 1 q q q (Rl 1 q (WL.nil ⟨q,λmD φD wD vsD hlenD m=>?_⟩)))
 refine Rxl 5 q (Zq (aa p116 z116 q q) q (Bx q q q (Rlc 4 q (aG (WLP.pre 2 (Rl 2 q (WL.nil_cell 7 20 58 6 q q (WL.nil ?_))))))))
 obtain⟨x,p,h⟩:=ac h
 rcases x with a|g
 dsimp only[Rs.cs] at h
 refine WLP.wing [7,0,1,2,3,8] q q q q (f45_c _ _ _ _ _ _ _ _ _ _ _ _ p) Lw q dC (Re (Re (Rg (Rf (Ro (Ro q)))))) ⟨q,q,q,q,q,q,Zt⟩ Kv q (Zw q) q q (λr' new hS=>?_) (λc new hS=>?_)
 obtain⟨z9,i3_85,i4_85,i5_85,hz,rfl,rfl⟩:=hS
 obtain rfl:=Rs.ok.inj hz
 refine⟨_,_,q,(Re (Re (Rg (Rf (Ro (Ro q)))))),q,Kv,WLP.of ?_⟩
 refine St q (Zn (Rcc 1 q ?_))
 refine WC.freezeX [] [(7,20)] 8 _ q (am eE _) Zt ⟨_,_,q,q,Zt⟩ ?_
 apply RT [_,_,_,_,_,_,_,_, .u, .u, .u] [8,9] [[.row 90 (mR mI mH mO mE 1 vo a.2.2.2.2.1 3 i4_85), .os 42 1 vo (br 2 i3_85 (List.length a.2.2.2.2.2.1)), .fam 2 1 i3_85 (bn E2 a.2.2.2.2.2.1), .os 2 1 i4_85 (eM E2 a.2.2.2.2.2.2.1), .row 41 (rg a.1 a.2.1 a.2.2.1 a.2.2.2.1), .row 50 [sN], .row 47 [.n 0], .row 116 (([.pt 0 0]:List AV)++(aY 16 (λj=> .n (a.1 j))++([.n a.2.1, .n a.2.2.1, .n a.2.2.2.1, .l E58 a.2.2.2.2.2.2.2]:List AV):List AV)), .z],[.row 90 (mR mI mH mO mE 1 vo a.2.2.2.2.1 3 i4_85), .os 42 1 vo (br 2 i3_85 (List.length a.2.2.2.2.2.1)), .fam 2 1 i3_85 (bn E2 a.2.2.2.2.2.1), .os 2 1 i4_85 (eM E2 a.2.2.2.2.2.2.1), .row 41 (rg a.1 a.2.1 a.2.2.1 a.2.2.2.1), .row 50 [.l E58 a.2.2.2.2.2.2.2], .row 47 [.n 0], .row 116 (([.pt 0 0]:List AV)++(aY 16 (λj=> .n (a.1 j))++([.n a.2.1, .n a.2.2.1, .n a.2.2.2.1, .l E58 a.2.2.2.2.2.2.2]:List AV):List AV)), .z]] [p01 11,p10 0,p10 1,p10 2,u01 11,u10 4,u10 5,u10 6,p11 3 8,q11 7 9 1,q01 10 2] kR kR q q
 refine Y4 ?_
 refine X2d ?_
 refine zo (λ_=>sS Z6 s41 Z2 (aT q q)) ?_
 refine zo (λ_=>sS Z6 s50 Z2 (aT q q)) ?_
 exact zo (λ_=>sS Z6 s47 Z2 (aT q q)) Zt
 refine Rxx 2 q ?_
 obtain rfl:=Oi h
 exact pa (new:=[.row 90 (mR mI mH mO mE 1 vo a.2.2.2.2.1 3 i4_85), .os 42 1 vo (br 2 i3_85 (List.length a.2.2.2.2.2.1)), .fam 2 1 i3_85 (bn E2 a.2.2.2.2.2.1), .os 2 1 i4_85 (eM E2 a.2.2.2.2.2.2.1)]) (r0:= .d (.tu [.ag (R41 (aI.mk a.1 a.2.1 a.2.2.1 a.2.2.2.1)), .sl (List.map E58 a.2.2.2.2.2.2.2), .i .i64 0])) m (se) (rs3 q (bc q q a41 s41 q) (gH q q a50 q) (gH q q a47 q)) (aV ⟨(aj (Zs _)),Zl,Zl,Zt⟩) q ⟨Zp,Zf,Zf,Zf,Zt⟩ ⟨i3_85,i4_85,q,q⟩
 obtain⟨z9,hz,_⟩:=hS
 cases hz
 dsimp only[Rs.cs] at h
 refine WLP.wing [7,0,1,2,3,8] q q q q (f45_c _ _ _ _ _ _ _ _ _ _ _ _ p) Lw q dC (Re (Re (Rg (Rf (Ro (Ro q)))))) ⟨q,q,q,q,q,q,Zt⟩ Kv q (Zw q) q q (λr' new hS=>?_) (λc new hS=>?_)
 obtain⟨z9,i3_85,i4_85,i5_85,hz,_⟩:=hS
 cases hz
 obtain⟨z9,hz,rfl,rfl⟩:=hS
 obtain rfl:=Rs.bad.inj hz
 refine⟨_,(Re (Re (Rg (Rf (Ro (Re q)))))),Kv,?_⟩
 refine cX (st':=[.row 90 (mR mI mH mO mE 1 vo mN 3 vu),oS vo 2 vf mS,fS vf mS,uS vu mU, .row 41 n19, .row 50 [sN], .row 47 [.n 0], .z, .z]) q (bi ?_)
 obtain rfl:=Oi h
 exact pb (new:=(wM mI mH mO mE vo mN vu vf mS mU)) (r0:= .d (.tu [.ag (R41 (aI.mk (λj=>0) 0 0 0)), .sl (List.map E58 []), .i .i64 g])) m (uF [4,5,6] (sf (e:=g)) Lw q dC q ⟨q,q,q,Zt⟩ q q q q q (st':=[.row 90 (mR mI mH mO mE 1 vo mN 3 vu),oS vo 2 vf mS,fS vf mS,uS vu mU, .row 41 n19, .row 50 [sN], .row 47 [.n g], .z, .z]) q) q (rs3 q (bc q q a41 s41 q) (gH q q a50 q) (gH q q a47 q)) (aV ⟨(aj (Zs _)),Le.nil,Zl,Zt⟩) q ⟨Zp,Zf,Zf,Zf,Zt⟩ ⟨vf,vu,q,q⟩

theorem f11_c(mI:List ap)(mH:List ak)(mO:List Obj)(mE:Int)(mN:List Int)(mS:List (List Int))(mU:List Int)(r1:aI){vo:Nat}{vf:Nat}{vu:Nat}{r:aI×(List Act)×Int×(List Int)×(List (List Int))×(List Int)}(h:f11 mI mH mO mE mN mS mU r1=some r):Ctr prog 11 [.pt 0 0, .d (.ag (R41 r1))] (wM mI mH mO mE vo mN vu vf mS mU) (dE 4 (λr' new=>∃i2 i3:Nat,r'= .d (.tu [.ag (R41 r.1), .sl (List.map E58 r.2.1), .i .i64 r.2.2.1])∧new=[.row 90 (mR mI mH mO mE 1 vo r.2.2.2.1 3 i3), .os 42 1 vo (br 2 i2 (List.length r.2.2.2.2.1)), .fam 2 1 i2 (bn E2 r.2.2.2.2.1), .os 2 1 i3 (eM E2 r.2.2.2.2.2)])):=by
 unfold f11 at h
 refine cI func11 λ_ _ _ hmm=>?_
 refine Rcl 2 q (Bd q q (Zs _) q (Al z41 q (Rll 8 q ?_)))
 obtain⟨a,c,h⟩:=ac h
 refine WL.wing [0,1,2,3] q q q q (f44_45_c _ _ _ _ _ _ _ _ _ c) Lw q dC (Re (Rg (Rf (Ro q)))) ⟨q,q,q,q,Zt⟩ Kv q (Zw q) q q (λr' new hS=>?_)
 obtain⟨i2_17,i3_17,rfl,rfl⟩:=hS
 refine⟨_,_,q,(Re (Rg (Rf (Ro q)))),q,Kv,?_⟩
 refine St q (Rl 3 q (sS Z6 s41 Z2 (St q (Rlx 5 q ?_))))
 obtain rfl:=Oi h
 exact aJ (new:=[.row 90 (mR mI mH mO mE 1 vo a.2.2.2.1 3 i3_17), .os 42 1 vo (br 2 i2_17 (List.length a.2.2.2.2.1)), .fam 2 1 i2_17 (bn E2 a.2.2.2.2.1), .os 2 1 i3_17 (eM E2 a.2.2.2.2.2)]) (r0:= .d (.tu [.ag (R41 a.1), .sl (List.map E58 a.2.1), .i .i64 a.2.2.1])) (rs3 q (bc q q a41 s41 q) (ay q) (ay q)) (aV ⟨(aj (Zs _)),Zl,Zl,Zt⟩) q ⟨Zp,Zf,Zf,Zf,Zt⟩ ⟨i2_17,i3_17,q,q⟩

theorem f38_c(s0:List ap){r:List ap}(h:f38 s0=some r):Pu prog 38 [.sl (List.map E45 s0)] (.sl (List.map E45 r)):=by
 unfold f38 at h
 replace h:=aE h
 obtain⟨hg,h⟩:=h
 obtain rfl:=Oi h
 refine fI func38 λ_ _=>?_
 refine Rcl 9 q (gW false q underlying23 q Zl (Zw q) q (λb hb=>?_))
 refine Rlc 2 q (eF q (λhc=>?_) (λhc=>?_))
 have a:=hb (by cases b<;>first|rfl|cases hc)
 exact Rcx 7 q (ao (rs1 q (ay q)) (by rw[a];exact Le.nil))
 exact Rcl 4 q (WL.s ((dV l23).does) (Zw q) q q (Rl 1 q (WL.s ((eB ([]:List ap) s0 dg l23 z45 q dC q q q (dc Zl dg (λ_=>q)) (λ_=>q) hg).does) (Zw q) q q (Rlx 4 q (ao (rs1 q (ay q)) Zl)))))

theorem f39_c(s0:List ak){r:List ak}(h:f39 s0=some r):Pu prog 39 [.sl (List.map bu s0)] (.sl (List.map bu r)):=by
 unfold f39 at h
 replace h:=aE h
 obtain⟨hg,h⟩:=h
 obtain rfl:=Oi h
 refine fI func39 λ_ _=>?_
 refine Rcl 9 q (gW false q underlying29 q Zl (Zw q) q (λb hb=>?_))
 refine Rlc 2 q (eF q (λhc=>?_) (λhc=>?_))
 have a:=hb (by cases b<;>first|rfl|cases hc)
 exact Rcx 7 q (ao (rs1 q (ay q)) (by rw[a];exact Le.nil))
 exact Rcl 4 q (WL.s ((dV l29).does) (Zw q) q q (Rl 1 q (WL.s ((eB ([]:List ak) s0 eg l29 l9 q dC q q q (dc Zl eg (λ_=>q)) (λ_=>q) hg).does) (Zw q) q q (Rlx 4 q (ao (rs1 q (ay q)) Zl)))))

theorem f43_c(s0:List Int){r:List Int}(h:f43 s0=some r):Pu prog 43 [.sl (List.map E3 s0)] (.sl (List.map E3 r)):=by
 unfold f43 at h
 replace h:=aE h
 obtain⟨hg,h⟩:=h
 obtain rfl:=Oi h
 refine fI func43 λ_ _=>?_
 refine Rcl 9 q (gW false q underlying96 q Zl (Zw q) q (λb hb=>?_))
 refine Rlc 2 q (eF q (λhc=>?_) (λhc=>?_))
 have a:=hb (by cases b<;>first|rfl|cases hc)
 exact Rcx 7 q (ao (rs1 q (ay q)) (by rw[a];exact Le.nil))
 exact Rcl 4 q (WL.s ((dV l96).does) (Zw q) q q (Rl 1 q (WL.s ((eB ([]:List Int) s0 eU l96 z3 q dC q q q (dc Zl eU (λ_=>q)) (λ_=>q) hg).does) (Zw q) q q (Rlx 4 q (ao (rs1 q (ay q)) Zl)))))

theorem f14_c(a0:List Int)(b1:List Int){r:Bool}(h:f14 a0 b1=some r):Pu prog 14 [.sl (List.map E2 a0), .sl (List.map E2 b1)] (.b r):=by
 unfold f14 at h
 refine fI func14 λ_ _=>?_
 refine Rcl 9 q (Zq (ab E2 a0 e42 q q Zl) q (Rl 1 q (Zq (ab E2 b1 e42 q q Zl) q (Rlc 3 q (Ci h q (λh=>?_) (λh=>?_))))))
 exact Rcx 7 q (FA h)
 refine Rcc 2 q (Jn0 [] [] h (λe h=>?_) (λh=>?_))
 refine Rcc 6 q (Ln1 (λa=> [(0, .l E2 a0),(1, .l E2 b1),(5, .n a)]) (λ_=> []) (f14_l1 a0 b1 e) h (λ_ h=>by rw[f14_l1] at h;cases h) (λn a h=>?_))
 rw[f14_l1] at h
 refine Rcl 5 q (Zq (ab E2 a0 e42 q q Zl) q (Rlc 3 q (Ci h q (λh=>?_) (λh=>?_))))
 refine Rcc 5 q (an kR kR (Rq 2 q ?_))
 obtain⟨f,c,h⟩:=ac h
 refine WQ.qn (ah e42 q Zl q (af c) (av dJ c) q) q (Rq 3 q ?_)
 obtain⟨g,d,h⟩:=ac h
 refine WQ.qn (ah e42 q Zl q (af d) (av dJ d) q) q (Rq 2 q (WQ.nil (Rxc 1 q (Ci h q (λh=>?_) (λh=>?_)))))
 exact Rcx 11 q (FA h)
 exact Rcx 8 q (Fn1 h)
 exact Rcx 4 q (En0 h)
 exact Rcx 6 q (FA h)

theorem f12_c(t0:ai){r:Bool}(h:f12 t0=some r):Pu prog 12 [.ag (R38 t0)] (.b r):=by
 unfold f12 at h
 refine fI func12 λ_ _=>?_
 refine Rcl 2 q (Bd q q (Zs _) q (Rlc 8 q (Jn1 (λa=> [(1, .d (.pc (R38 t0))),(3, .n a)]) (λ_=> []) h (λf h=>?_) (λa h=>?_))))
 refine Rcc 6 q (Ln2 (λc e=> [(1, .d (.pc (R38 t0))),(3, .n c),(4, .n e)]) (λ_ _=> []) (f12_l1 t0 f) h (λ_ _ h=>by rw[f12_l1] at h;cases h) (λn c e h=>?_))
 rw[f12_l1] at h
 refine Rcl 6 q (Zq (ab bp t0.objs e33 q q Zl) q (Rl 2 q ?_))
 refine Ag 3 10 13 (λ_=>Rn 3 3) (Rn 3 3) ?_
 refine Rlc 2 q (Ci h q (λh=>?_) (λh=>?_))
 exact Rcl 9 q (Ix h e33 bH q Zl q q λg _ h=>(Rl 2 q (Zq (rJ q q q) q (Zq (pU q q q) q (Rlx 10 q (Fn2 h))))))
 exact Rcx 4 q (En1 h)
 refine Rcl 5 q ?_
 apply WL.or 5 (t:=28) (d:=33)
 exact q
 intro j
 exact Rl 2 q (Zy (ab E45 t0.insns e23 q q Zl) q q q (Rl 2 q (WL.nil ⟨q,[_,_,_,_,_],q,q,q⟩)))
 exact Rn 5 5
 refine Rl 1 q ?_
 apply WL.or 5 (t:=34) (d:=39)
 exact q
 intro k
 exact Rl 2 q (Zy (ab bu t0.handlers e29 q q Zl) q q q (Rl 2 q (WL.nil ⟨q,[_,_,_,_,_],q,q,q⟩)))
 exact Rn 5 5
 refine Rl 1 q ?_
 apply WL.or 5 (t:=40) (d:=45)
 exact q
 intro m
 exact Rl 2 q (Zy (ab cg t0.loops e30 q q Zl) q q q (Rl 2 q (WL.nil ⟨q,[_,_,_,_,_],q,q,q⟩)))
 exact Rn 5 5
 refine Rl 1 q ?_
 apply WL.or 5 (t:=46) (d:=51)
 exact q
 intro p
 exact Rl 2 q (Zy (ab bX t0.selects e31 q q Zl) q q q (Rl 2 q (WL.nil ⟨q,[_,_,_,_,_],q,q,q⟩)))
 exact Rn 5 5
 refine Rl 1 q ?_
 apply WL.or 5 (t:=52) (d:=57)
 exact q
 intro w
 exact Rl 2 q (Zy (ab E96 t0.lists e32 q q Zl) q q q (Rl 2 q (WL.nil ⟨q,[_,_,_,_,_],q,q,q⟩)))
 exact Rn 5 5
 refine Rl 1 q ?_
 apply WL.or 5 (t:=58) (d:=63)
 exact q
 intro x
 exact Rl 2 q (Zy (ab bp t0.objs e33 q q Zl) q q q (Rl 2 q (WL.nil ⟨q,[_,_,_,_,_],q,q,q⟩)))
 exact Rn 5 5
 refine Rl 1 q ?_
 apply WL.or 5 (t:=64) (d:=69)
 exact q
 intro y
 exact Rl 2 q (Zy (ab bU t0.inits e34 q q Zl) q q q (Rl 2 q (WL.nil ⟨q,[_,_,_,_,_],q,q,q⟩)))
 exact Rn 5 5
 refine Rl 1 q ?_
 apply WL.or 5 (t:=70) (d:=75)
 exact q
 intro A
 exact Rl 2 q (Zy (ab E27 t0.tasks e28 q q Zl) q q q (Rl 2 q (WL.nil ⟨q,[_,_,_,_,_],q,q,q⟩)))
 exact Rn 5 5
 refine Rl 1 q ?_
 apply WL.or 5 (t:=76) (d:=81)
 exact q
 intro B
 exact Rl 2 q (Zy (ab bN t0.prots e35 q q Zl) q q q (Rl 2 q (WL.nil ⟨q,[_,_,_,_,_],q,q,q⟩)))
 exact Rn 5 5
 refine Rl 1 q ?_
 apply WL.or 5 (t:=82) (d:=87)
 exact q
 intro C
 exact Rl 2 q (Zy (ab co t0.checks e36 q q Zl) q q q (Rl 2 q (WL.nil ⟨q,[_,_,_,_,_],q,q,q⟩)))
 exact Rn 5 5
 exact Rlx 4 q (FA h)

theorem f42_c(s0:List Int){r:List Int}(h:f42 s0=some r):Pu prog 42 [.sl (List.map E2 s0)] (.sl (List.map E2 r)):=by
 unfold f42 at h
 replace h:=aE h
 obtain⟨hg,h⟩:=h
 obtain rfl:=Oi h
 refine fI func42 λ_ _=>?_
 refine Rcl 9 q (gW false q underlying42 q Zl (Zw q) q (λb hb=>?_))
 refine Rlc 2 q (eF q (λhc=>?_) (λhc=>?_))
 have a:=hb (by cases b<;>first|rfl|cases hc)
 exact Rcx 7 q (ao (rs1 q (ay q)) (by rw[a];exact Le.nil))
 exact Rcl 4 q (WL.s ((dV l42).does) (Zw q) q q (Rl 1 q (WL.s ((eB ([]:List Int) s0 dJ l42 z2 q dC q q q (dc Zl dJ (λ_=>q)) (λ_=>q) hg).does) (Zw q) q q (Rlx 4 q (ao (rs1 q (ay q)) Zl)))))

theorem f42c_c(s0:List Int){v0:Nat}{r:List Int}(h:f42c s0=some r):Ctr prog 42 [.os 0 v0] [uS v0 s0] (dE 1 (λr' new=>r'= .l E2 r∧new=[uS v0 s0])):=by
 unfold f42c at h
 replace h:=aE h
 obtain⟨hg,h⟩:=h
 obtain rfl:=Oi h
 refine cI func42 λ_ _ _ hmm=>?_
 refine Rcl 9 q (ru underlying42 q q (Zw q) q (λb hb=>?_))
 refine Rlc 2 q (eF q (λhc=>?_) (λhc=>?_))
 have a:=hb hc
 exact Rcx 7 q (aJ (new:=[uS v0 s0]) (r0:= .l E2 s0) (rs1 q (ay q)) (by rw[a];exact Le.nil) q ⟨Zf,Zt⟩ ⟨q,q⟩)
 exact Rcl 4 q (WL.s ((dV l42).does) (Zw q) q q (Rl 1 q (WL.s ((eB ([]:List Int) s0 dJ l42 z2 q dC q q q (Src.own q) (λ_=>q) hg).does) (Zw q) q q (Rlx 4 q (aJ (new:=[uS v0 s0]) (r0:= .l E2 s0) (rs1 q (ay q)) Zl q ⟨Zf,Zt⟩ ⟨q,q⟩)))))

theorem f42m_c(s0:List (List Int))(j0:Int){v0:Nat}{r:List Int}(h:f42m s0 j0=some r):Ctr prog 42 [.osf 0 (Int.toNat j0) v0] [fS v0 s0] (dE 1 (λr' new=>r'= .l E2 r∧new=[fS v0 s0])):=by
 unfold f42m at h
 obtain⟨M,hM,h⟩:=ac h
 replace h:=aE h
 obtain⟨hg,h⟩:=h
 obtain rfl:=Oi h
 refine cI func42 λ_ _ _ hmm=>?_
 refine Rcl 9 q (rx underlying42 q q (bF hM) (Zw q) q (λb hb=>?_))
 refine Rlc 2 q (eF q (λhc=>?_) (λhc=>?_))
 have a:=hb hc
 exact Rcx 7 q (aJ (new:=[fS v0 s0]) (r0:= .l E2 M) (rs1 q (ay q)) (by rw[a];exact Le.nil) q ⟨Zf,Zt⟩ ⟨q,q⟩)
 exact Rcl 4 q (WL.s ((dV l42).does) (Zw q) q q (Rl 1 q (WL.s ((eB ([]:List Int) M dJ l42 z2 q dC q q q (Src.mem q (bF hM)) (λ_=>q) hg).does) (Zw q) q q (Rlx 4 q (aJ (new:=[fS v0 s0]) (r0:= .l E2 M) (rs1 q (ay q)) Zl q ⟨Zf,Zt⟩ ⟨q,q⟩)))))

theorem f28_c(mI:List ap)(mH:List ak)(mO:List Obj)(mE:Int)(mN:List Int)(mS:List (List Int))(mU:List Int){vo:Nat}{vf:Nat}{vu:Nat}{r:List (List Int)}(h:f28 mI mH mO mE mN mS mU=some r):Ctr prog 28 [.pt 0 0] (wM mI mH mO mE vo mN vu vf mS mU) (dE 4 (λr' new=>r'= .l E42 r∧new=(wM mI mH mO mE vo mN vu vf mS mU))):=by
 unfold f28 at h
 refine cI func28 λ_ _ _ hmm=>?_
 refine Rcl 9 q ?_
 obtain⟨x,j,h⟩:=ac h
 refine WL.wing [0,1,2,3] q q q q (f47_c _ _ _ _ _ _ _ j) Lw q dC (Re (Rg (Rf (Ro q)))) ⟨q,q,q,q,Zt⟩ Kv q (Zw q) q q (λr' new hS=>?_)
 obtain⟨rfl,rfl⟩:=hS
 refine⟨_,_,q,(Re (Rg (Rf (Ro q)))),q,Kv,?_⟩
 refine St q (Rlc 2 q (Ci h q (λh=>?_) (λh=>?_)))
 refine Rcx 7 q ?_
 obtain rfl:=Oi h
 exact aJ (new:=(wM mI mH mO mE vo mN vu vf mS mU)) (r0:= .l E42 []) (rs1 q (ay q)) Le.nil q ⟨Zp,Zf,Zf,Zf,Zt⟩ ⟨q,q⟩
 refine Rcl 8 q (Zq (gZ e62 q q q) q ?_)
 replace h:=aE h
 obtain⟨m,h⟩:=h
 refine WL.s ((NewOs.b (NewOs.weak (eN l62 z42 q (Nat.succ_pos _) q q m) (by exact ji (R:=E42) (z:=([]:List Int)) (show Les [sN] [AV.d (.sl [])] from⟨Le.nil,Zt⟩) _))).does) (Zw q) q q (Rlc 3 q (Jn1 (λ_=> [(3, .os 4 0)]) (λc=> [.row 90 (mR mI mH mO mE 1 vo mN 3 vu),oS vo 2 vf mS,fS vf mS,uS vu mU, .os 42 1 0 (eM E42 c)]) h (λp h=>?_) (λc h=>?_)))
 refine Rcl 6 q (Zq (gZ e62 q q q) q (Rlc 4 q (Ln2 (λa _=> [(3, .os 4 0),(17, .os 1 vo),(18, .n (List.length mS:Int)),(19, .n a)]) (λ_ f=> [.row 90 (mR mI mH mO mE 1 vo mN 3 vu),oS vo 2 vf mS,fS vf mS,uS vu mU, .os 42 1 0 (eM E42 f)]) (f28_l1 mS p) h (λ_ _ h=>by rw[f28_l1] at h;cases h) (λn a f h=>?_))))
 rw[f28_l1] at h
 refine Rcc 6 q (Ci h q (λh=>?_) (λh=>?_))
 refine Rcl 7 q ?_
 obtain⟨y,e,h⟩:=ac h
 refine Zq (dm e62 q q q (af e) (dD e)) q (Zq (ep (i:=a) q q a42 (bV e)) q (Rll 8 q ?_))
 obtain⟨t,w,h⟩:=ac h
 refine WL.wing [2] q q q q (f42m_c _ _ w) Lw q dC (Rf q) ⟨q,Zt⟩ Kv q (Zw q) q q (λr' new hS=>?_)
 obtain⟨rfl,rfl⟩:=hS
 refine⟨_,_,q,(Rf q),q,Kv,?_⟩
 refine St q ?_
 obtain⟨A,g,h⟩:=ac h
 exact Zq (kI e62 q q q g) q (WL.s0 (cV (R:=E42) (k:=1) (i:=a) (fo:=0) t q q q q Zl q q q s42 q (λ_=>q) g q q) (Zw q) q (Rlx 7 q (Fn2 h)))
 exact Rcx 4 q (En1 h)
 refine Rcx 7 q ?_
 refine WE.freezeX [3,30,2] [] 4 _ q (am fN _) ⟨q,q,q,Zt⟩ Zt ?_
 obtain rfl:=Oi h
 exact aJ (new:=(wM mI mH mO mE vo mN vu vf mS mU)) (r0:= .l E42 c) (rs1 q (ay q)) Zl q ⟨Zp,Zf,Zf,Zf,Zt⟩ ⟨q,q⟩

theorem f13_c(mI:List ap)(mH:List ak)(mO:List Obj)(mE:Int)(mN:List Int)(mS:List (List Int))(mU:List Int){vo:Nat}{vf:Nat}{vu:Nat}{r:List Int}(h:f13 mI mH mO mE mN mS mU=some r):Ctr prog 13 [.pt 0 0] (wM mI mH mO mE vo mN vu vf mS mU) (dE 4 (λr' new=>r'= .l E2 r∧new=(wM mI mH mO mE vo mN vu vf mS mU))):=by
 unfold f13 at h
 refine cI func13 λ_ _ _ hmm=>?_
 refine Rcl 9 q ?_
 obtain⟨e,a,h⟩:=ac h
 refine WL.wing [0,1,2,3] q q q q (f47_c _ _ _ _ _ _ _ a) Lw q dC (Re (Rg (Rf (Ro q)))) ⟨q,q,q,q,Zt⟩ Kv q (Zw q) q q (λr' new hS=>?_)
 obtain⟨rfl,rfl⟩:=hS
 refine⟨_,_,q,(Re (Rg (Rf (Ro q)))),q,Kv,?_⟩
 refine St q (Rlc 2 q (Ci h q (λh=>?_) (λh=>?_)))
 refine Rcx 7 q ?_
 obtain rfl:=Oi h
 exact aJ (new:=(wM mI mH mO mE vo mN vu vf mS mU)) (r0:= .l E2 []) (rs1 q (ay q)) Le.nil q ⟨Zp,Zf,Zf,Zf,Zt⟩ ⟨q,q⟩
 refine Rcl 8 q ?_
 obtain⟨c,d,h⟩:=ac h
 refine wF Z4 (f42_c _ d) Lw Z3 (Rlx 4 q ?_)
 obtain rfl:=Oi h
 exact aJ (new:=(wM mI mH mO mE vo mN vu vf mS mU)) (r0:= .l E2 c) (rs1 q (ay q)) Zl q ⟨Zp,Zf,Zf,Zf,Zt⟩ ⟨q,q⟩

theorem f15_c(mI:List ap)(mH:List ak)(mO:List Obj)(mE:Int)(mN:List Int)(mS:List (List Int))(mU:List Int){vo:Nat}{vf:Nat}{vu:Nat}{r:List Int}(h:f15 mI mH mO mE mN mS mU=some r):Ctr prog 15 [.pt 0 0] (wM mI mH mO mE vo mN vu vf mS mU) (dE 4 (λr' new=>r'= .l E2 r∧new=(wM mI mH mO mE vo mN vu vf mS mU))):=by
 unfold f15 at h
 refine cI func15 λ_ _ _ hmm=>?_
 refine Rcl 9 q ?_
 obtain⟨e,a,h⟩:=ac h
 refine WL.wing [0,1,2,3] q q q q (f47_c _ _ _ _ _ _ _ a) Lw q dC (Re (Rg (Rf (Ro q)))) ⟨q,q,q,q,Zt⟩ Kv q (Zw q) q q (λr' new hS=>?_)
 obtain⟨rfl,rfl⟩:=hS
 refine⟨_,_,q,(Re (Rg (Rf (Ro q)))),q,Kv,?_⟩
 refine St q (Rlc 2 q (Ci h q (λh=>?_) (λh=>?_)))
 refine Rcx 7 q ?_
 obtain rfl:=Oi h
 exact aJ (new:=(wM mI mH mO mE vo mN vu vf mS mU)) (r0:= .l E2 []) (rs1 q (ay q)) Le.nil q ⟨Zp,Zf,Zf,Zf,Zt⟩ ⟨q,q⟩
 refine Rcl 8 q ?_
 obtain⟨c,d,h⟩:=ac h
 refine WL.wing [3] q q q q (f42c_c _ d) Lw q dC (Ro q) ⟨q,Zt⟩ Kv q (Zw q) q q (λr' new hS=>?_)
 obtain⟨rfl,rfl⟩:=hS
 refine⟨_,_,q,(Ro q),q,Kv,?_⟩
 refine St q (Rlx 4 q ?_)
 obtain rfl:=Oi h
 exact aJ (new:=(wM mI mH mO mE vo mN vu vf mS mU)) (r0:= .l E2 c) (rs1 q (ay q)) Zl q ⟨Zp,Zf,Zf,Zf,Zt⟩ ⟨q,q⟩

theorem f41_c(t0:ai){vo:Nat}{vf:Nat}{r:List (List Int)}(h:f41 t0=some r):Ctr prog 41 [.d (.ag (R38 t0))] [.rsv, .rsv] (dE 2 (λr' new=>r'= .os 0 vo∧new=[oS vo 1 vf r,fS vf r])):=by
 unfold f41 at h
 refine cI func41 λ_ _ _ hmm=>?_
 refine Rcl 2 q (Bd q q (Zs _) q (Rll 7 q ?_))
 obtain⟨a6,X,h⟩:=ac h
 refine wF Z4 (f37_c _ X) Lw Z3 (Rlc 3 q (Ci h q (λh=>?_) (λh=>?_)))
 refine Rcx 7 q ?_
 cases h
 refine Rcl 6 q (Zq (ab bp t0.objs e33 q q Zl) q ?_)
 replace h:=aE h
 obtain⟨Y,h⟩:=h
 refine WL.s ((NewOs.b (eN l62 z42 q (Nat.succ_pos _) q q Y)).does) (Zw q) q q (eo (pJ E2 2 2 1 q) (Rlc 3 q ?_))
 replace h:=aD h
 obtain⟨S,Z,h⟩:=h
 refine cR (λenv' st'=>∃(F:List (List Int)),∃(P:Nat),S F=some r∧Sub [(1, .d (.pc (R38 t0))),(3, .os 2 0)] env'∧SLe st' [.rsv, .rsv,oS 0 3 P F,fS P F]) ?_ ?_
 refine Rcl 4 q (Zq (ab bp t0.objs e33 q q Zl) q (Rlc 4 q (dh (λn env' st'=>∃(c:Int),∃(f:List (List Int)),∃(y:Nat),f41_l1 t0 S n c f=some r∧Sub [(1, .d (.pc (R38 t0))),(3, .os 2 0),(17, .l bp t0.objs),(18, .n (List.length t0.objs:Int)),(19, .n c)] env'∧SLe st' [.rsv, .rsv,oS 0 3 y f,fS y f]) (λn=>n) (Int.toNat ((List.length t0.objs:Int) - 0)+1) ⟨0,(List.replicate (Int.toNat (List.length t0.objs:Int)) ([]:List Int)),_,h,(Sx q (Sx q (Sx q (Sx q (Sx q (Sub.nil _)))))),⟨Zt,Zt,Zf,Zf,Zt⟩⟩ ?_)))
 rintro n G st1 ⟨c,f,y,h,hsub,hst⟩
 rcases n with _|n
 rw[f41_l1] at h;cases h
 rw[f41_l1] at h
 refine WC.sub hsub (WC.weak hst ?_)
 refine Rcc 6 q (Ci h q (λh=>?_) (λh=>?_))
 refine Rcc 2 q ?_
 replace h:=aD h
 obtain⟨T,ad,h⟩:=h
 refine cR (λenv' st'=>∃(J:List (List Int)),∃(Q:Nat),T J=some r∧Sub [(1, .d (.pc (R38 t0))),(3, .os 2 0),(17, .l bp t0.objs),(18, .n (List.length t0.objs:Int)),(19, .n c)] env'∧SLe st' [.rsv, .rsv,oS 0 3 Q J,fS Q J]) ?_ ?_
 refine Rcl 4 q (Ix h e33 bH q Zl q q λa _ h=>(Rl 1 q (Al mX q (Rl 1 q (sS Z6 nX Z2 (Rll 8 q ?_))))))
 replace h:=aE h
 obtain⟨ax,h⟩:=h
 refine WL.s ((NewOs.b (NewOs.cast (eN l42 z2 q (Nat.succ_pos _) q q ax) (by exact fg (R:=E2) (z:=(0:Int)) q))).does) (Zw q) q q ?_
 obtain⟨a7,K,h⟩:=ac h
 refine Zq (dm e62 q q q (af K) (dD K)) q (WL.s0 (oE (i:=c) (n:=List.length f) q q q q s42 (bV K)) (Zw q) q (eo (iT (L:=f) (_x:=[]) (x':=(List.replicate (Int.toNat a.size) (0:Int))) (j:=Int.toNat c) 2 3 5 (List.set f (Int.toNat c) (List.replicate (Int.toNat a.size) (0:Int))) q q q q q (bV K) q) (Rll 5 q ?_)))
 obtain⟨a8,a0,h⟩:=ac h
 refine wF Z4 (f79_c _ _ a0) ⟨(aj (Zs _)),Zl,Zt⟩ Z3 (Rlc 3 q (Ci h q (λh=>?_) (λh=>?_)))
 refine Rcl 4 q ?_
 obtain⟨p,E,h⟩:=ac h
 refine Zq (dm e62 q q q (af E) (dD E)) q (eo (fA (L:=(List.set f (Int.toNat c) (List.replicate (Int.toNat a.size) (0:Int)))) (x:=p) (i:=c) 2 3 q q q E) (Zq (fY (i:=c) q q a42 (bV E)) q (Zq (fp (ba E2) p e42 q q q) q (Rlx 2 q (mT (fB (L0:=(List.set f (Int.toNat c) (List.replicate (Int.toNat a.size) (0:Int)))) (x':=p) 2 3 6 q q q q q (bV E)) ?_)))))
 refine cX (st':=[.rsv, .rsv, .os 42 1 0 (br 3 (((y+1)+1)+1) (List.length (List.set f (Int.toNat c) (List.replicate (Int.toNat a.size) (0:Int))))), .fam 2 1 (((y+1)+1)+1) (bn E2 (List.set f (Int.toNat c) (List.replicate (Int.toNat a.size) (0:Int)))), .row 101 [.n a.size, .n a.lo, .n a.hi, .d (D.b a.ptr), .l E3 a.set_], .z, .z]) (by show([.rsv, .rsv, .os 42 1 0 (br 3 (((y+1)+1)+1) (List.length (List.set (List.set f (Int.toNat c) (List.replicate (Int.toNat a.size) (0:Int))) (Int.toNat c) p))), .fam 2 1 (((y+1)+1)+1) (bn E2 (List.set (List.set f (Int.toNat c) (List.replicate (Int.toNat a.size) (0:Int))) (Int.toNat c) p)), .row 101 [.n a.size, .n a.lo, .n a.hi, .d (D.b a.ptr), .l E3 a.set_], .z, .z]:List AO)=_;rw[m7 E]) (Rxc 2 q ?_)
 refine dh (λna env' st'=>∃(A:Int),∃(g:List (List Int)),∃(B:Nat),f41_l2 c T a p na A g=some r∧Sub [(1, .d (.pc (R38 t0))),(3, .os 2 0),(4, .n c),(5, .pt 4 0),(17, .l bp t0.objs),(18, .n (List.length t0.objs:Int)),(19, .n c),(37, .n (List.length p:Int)),(38, .n A)] env'∧SLe st' [.rsv, .rsv,oS 0 3 B g,fS B g, .row 101 [.n a.size, .n a.lo, .n a.hi, .d (D.b a.ptr), .l E3 a.set_], .z, .z]) (λn=>n) (Int.toNat ((List.length p:Int) - 0)+1) ⟨0,(List.set f (Int.toNat c) (List.replicate (Int.toNat a.size) (0:Int))),_,h,(Sx q (Sx q (Sx q (Sx q (Sx q (Sx q (Sx q (Sx q (Sx q (Sub.nil _)))))))))),⟨Zt,Zt,Zf,Zf,Zp,Zt,Zt,Zt⟩⟩ ?_
 rintro na G st1 ⟨A,g,B,h,hsub,hst⟩
 rcases na with _|na
 rw[f41_l2] at h;cases h
 rw[f41_l2] at h
 refine WC.sub hsub (WC.weak hst ?_)
 refine Rcc 6 q (Ci h q (λh=>?_) (λh=>?_))
 refine Rcc 10 q ?_
 obtain⟨M,H,h⟩:=ac h
 obtain⟨a',U,h⟩:=ac h
 apply RT [_,_,_,_,_,_,_,_, .u] [3,8] [[.rsv, .rsv, .os 42 1 0 (List.set (br 3 (B+1) (List.length g)) (Int.toNat c) [.os 7 0]), .fam 2 1 (B+1) (bn E2 (List.set g (Int.toNat c) [])), .row 101 [.n a.size, .n a.lo, .n a.hi, .d (D.b a.ptr), .l E3 a.set_], .z, .z,uS 0 M],[.rsv, .rsv, .os 42 1 0 (List.set (br 3 (B+1) (List.length g)) (Int.toNat c) [.os 7 0]), .fam 2 1 (B+1) (bn E2 (List.set g (Int.toNat c) [])), .row 101 [.n a.size, .n a.lo, .n a.hi, .d (D.b a.ptr), .l E3 a.set_], .z, .z, .os 2 1 0 (eM E2 (List.set M (Int.toNat A) a.lo))]] [p01 3,p01 4,p20 0 1,p10 2,u01 6,u01 5,u10 5,q20 3 4 1,q20 7 6 1] kR kR q q
 refine Y2 ?_
 refine zo (λ_=>Zq (dm e62 q q q (af H) (dD H)) q (Zd q q q)) ?_
 refine zo (λ_=>eo (fA (L:=g) (x:=M) (i:=c) 2 3 q q q H) (Zq (fY (i:=c) q q a42 (bV H)) q (Zd q q q))) ?_
 refine X2c ?_
 refine zo (λ_=>Zq (kI e42 q q q U) q (Zd q q q)) ?_
 exact zo (λ_=>WL.s0 (cV (R:=E2) (k:=1) (i:=A) (fo:=0) a.lo q q q q Zl q q q s2 q (λ_=>q) U q q) (Zw q) q (aT q q)) Zt
 exact mT (fB (L0:=g) (x':=(List.set M (Int.toNat A) a.lo)) 2 3 7 q q q q q (bV H)) (Rxx 6 q (WE.drop 7 (env':=[(1, .d (.pc (R38 t0))),(3, .os 2 0),(4, .n c),(5, .pt 4 0),(17, .l bp t0.objs),(18, .n (List.length t0.objs:Int)),(19, .n c),(37, .n (List.length p:Int)),(38, .n (IntKind.i64.wrap (A+1)))]) Sb q Kv (Nat.le_trans (Nat.le_of_eq hmm) (Nat.le_of_ble_eq_true q)) (Fn3 h)))
 exact Rcx 5 q (WE.drop 4 (env':=[(1, .d (.pc (R38 t0))),(3, .os 2 0),(17, .l bp t0.objs),(18, .n (List.length t0.objs:Int)),(19, .n c)]) Sb q Kv (Nat.le_trans (Nat.le_of_eq hmm) (Nat.le_of_ble_eq_true q)) (En2 h))
 exact Rcx 2 q (WE.drop 4 (env':=[(1, .d (.pc (R38 t0))),(3, .os 2 0),(17, .l bp t0.objs),(18, .n (List.length t0.objs:Int)),(19, .n c)]) Sb q Kv (Nat.le_trans (Nat.le_of_eq hmm) (Nat.le_of_ble_eq_true q)) (En2 h))
 rintro G st1 ⟨J,Q,h,hsub,hst⟩
 subst ad
 dsimp only at h
 refine WC.sub hsub (WC.weak hst ?_)
 exact Rcx 4 q (Fn3 h)
 exact Rcx 4 q (En2 h)
 rintro G st1 ⟨F,P,h,hsub,hst⟩
 subst Z
 dsimp only at h
 refine WC.sub hsub (WC.weak hst ?_)
 replace h:=aD h
 obtain⟨V,a1,h⟩:=h
 refine cR (λenv' st'=>∃(t:List (List Int)),∃(w:Nat),V t=some r∧Sub [(3, .os 2 0)] env'∧SLe st' [.rsv, .rsv,oS 0 3 w t,fS w t]) ?_ ?_
 refine Rcl 4 q (Zq (ab bU t0.inits e34 q q Zl) q (Rlc 4 q (dh (λn env' st'=>∃(N:Int),∃(m:List (List Int)),∃(C:Nat),f41_l3 t0 V n N m=some r∧Sub [(3, .os 2 0),(52, .l bU t0.inits),(53, .n (List.length t0.inits:Int)),(54, .n N)] env'∧SLe st' [.rsv, .rsv,oS 0 3 C m,fS C m]) (λn=>n) (Int.toNat ((List.length t0.inits:Int) - 0)+1) ⟨0,F,_,h,(Sx q (Sx q (Sx q (Sx q (Sub.nil _))))),⟨Zt,Zt,Zf,Zf,Zt⟩⟩ ?_)))
 rintro n G st1 ⟨N,m,C,h,hsub,hst⟩
 rcases n with _|n
 rw[f41_l3] at h;cases h
 rw[f41_l3] at h
 refine WC.sub hsub (WC.weak hst ?_)
 refine Rcc 6 q (Ci h q (λh=>?_) (λh=>?_))
 refine Rcl 6 q (Ix h e34 eK q Zl q q λe _ h=>(Rl 1 q (Al vb q (sS Z6 vp Z2 (Rlc 2 q ?_)))))
 obtain⟨O,I,h⟩:=ac h
 obtain⟨bb,W,h⟩:=ac h
 apply RT [_,_,_,_,_,_,_,_,_,_, .u] [4,10] [[.rsv, .rsv, .os 42 1 0 (List.set (br 3 (C+1) (List.length m)) (Int.toNat e.o) [.os 5 0]), .fam 2 1 (C+1) (bn E2 (List.set m (Int.toNat e.o) [])), .row 140 [.n e.o, .n e.slot, .n e.v],uS 0 O],[.rsv, .rsv, .os 42 1 0 (List.set (br 3 (C+1) (List.length m)) (Int.toNat e.o) [.os 5 0]), .fam 2 1 (C+1) (bn E2 (List.set m (Int.toNat e.o) [])), .row 140 [.n e.o, .n e.slot, .n e.v], .os 2 1 0 (eM E2 (List.set O (Int.toNat e.slot) e.v))]] [p01 3,p01 8,p10 1,p20 0 2,p10 3,u01 8,u10 5,u01 8,u10 7,q20 4 6 1,q20 9 8 1] kR kR q q
 refine Y3 ?_
 refine zo (λ_=>Zq (dm e62 q q q (af I) (dD I)) q (Zd q q q)) ?_
 refine zo (λ_=>eo (fA (L:=m) (x:=O) (i:=e.o) 2 3 q q q I) (Zq (fY (i:=e.o) q q a42 (bV I)) q (Zd q q q))) ?_
 refine X2d ?_
 refine zo (λ_=>Zq (kI e42 q q q W) q (Zd q q q)) ?_
 exact zo (λ_=>WL.s0 (cV (R:=E2) (k:=1) (i:=e.slot) (fo:=0) e.v q q q q Zl q q q s2 q (λ_=>q) W q q) (Zw q) q (aT q q)) Zt
 exact mT (fB (L0:=m) (x':=(List.set O (Int.toNat e.slot) e.v)) 2 3 5 q q q q q (bV I)) (Rxx 6 q (WE.drop 4 (env':=[(3, .os 2 0),(52, .l bU t0.inits),(53, .n (List.length t0.inits:Int)),(54, .n (IntKind.i64.wrap (N+1)))]) Sb q Kv (Nat.le_trans (Nat.le_of_eq hmm) (Nat.le_of_ble_eq_true q)) (Fn3 h)))
 exact Rcx 4 q (En2 h)
 rintro G st1 ⟨t,w,h,hsub,hst⟩
 subst a1
 dsimp only at h
 refine WC.sub hsub (WC.weak hst ?_)
 refine Rcx 7 q ?_
 obtain rfl:=Oi h
 exact fq (st1:=[.rsv, .rsv,oS 0 3 w t,fS w t]) [2,3] (.os 0 0) [oS 0 1 w t,fS w t] (λi=>List.getD [0,w] i 0) (λi=>List.getD [vo,vf] i 0) (rs1 q (ay q)) q Zl ⟨OLe.refl _,OLe.refl _,OLe.refl _,OLe.refl _,Zt⟩ dC (Rg (Rf q)) ⟨q,q,Zt⟩ Kv q hmm q q ⟨q,q,Zt⟩ q (ea (su _ _ _ _ _ _ _ _ q) (ea (sv _ _ _ _ _ _ _ _) q)) (by simp[AV.rv,AV.rvs]) ⟨q,q⟩

theorem f40n_c(s0:List Obj){v0:Nat}{r:List Obj}(h:f40n s0=some r):Ctr prog 40 [.l bp s0] [.rsv] (dE 1 (λr' new=>r'= .os 0 v0∧new=[.os 101 5 v0 (eM ek r)])):=by
 unfold f40n at h
 replace h:=aE h
 obtain⟨hg,h⟩:=h
 obtain rfl:=Oi h
 refine cI func40 λ_ _ _ hmm=>?_
 refine Rcl 9 q (gW false q underlying33 q Zl (Zw q) q (λb hb=>?_))
 refine Rlc 2 q (eF q (λhc=>?_) (λhc=>?_))
 have a:=hb (by cases b<;>first|rfl|cases hc)
 have c:s0=[]:=by cases s0<;>first|rfl|cases a
 subst c
 exact Rcx 7 q (mT (q9 2 101 5 q) (fq (st1:=[.rsv, .os 101 5 0 (eM ek ([]:List Obj))]) [1] (.os 0 0) [.os 101 5 0 (eM ek ([]:List Obj))] (λi=>List.getD [0] i 0) (λi=>List.getD [v0] i 0) (rs1 q (ay q)) q Zl ⟨OLe.refl _,OLe.refl _,Zt⟩ dC (Ro q) ⟨q,Zt⟩ Kv q hmm q q ⟨q,Zt⟩ q (ea (pY _ _ _ _ _ _ _ _) q) (by simp[AV.rv]) ⟨q,q⟩))
 exact Rcl 4 q (WL.s (((oc l33).b).does) (Zw q) q q (Rl 1 q (WL.s (dz ek ([]:List Obj) s0 l33 mX q dC q q q q (dc Zl bH (λ_=>q)) (λ_=>q) (λ_=>q) hg) (Zw q) q q (Rlx 4 q (fq (st1:=[.rsv, .os 101 5 (0+1) (eM ek (([]:List Obj)++s0))]) [1] (.os 0 (0+1)) [.os 101 5 (0+1) (eM ek (([]:List Obj)++s0))] (λi=>List.getD [(0+1)] i 0) (λi=>List.getD [v0] i 0) (rs1 q (ay q)) q Zl ⟨OLe.refl _,OLe.refl _,Zt⟩ dC (Ro q) ⟨q,Zt⟩ Kv q hmm q q ⟨q,Zt⟩ q (ea (pY _ _ _ _ _ _ _ _) q) (by simp[AV.rv]) ⟨q,q⟩)))))

theorem f10_c(t0:ai)(w:List Int){vo:Nat}{vf:Nat}{vu:Nat}{r:Int×(List ap)×(List ak)×(List Obj)×Int×(List Int)×(List (List Int))×(List Int)}(h:f10 t0 w=some r):Ctr prog 10 [.d (.ag (R38 t0)), .l E2 w] [.rsv, .rsv, .rsv, .rsv] (dE 4 (λr' new=>r'= .tu [.pt 0 0, .d (.i .i64 r.1)]∧new=[.row 90 (mR r.2.1 r.2.2.1 r.2.2.2.1 r.2.2.2.2.1 1 vo r.2.2.2.2.2.1 3 vu), .os 42 1 vo (br 2 vf (List.length r.2.2.2.2.2.2.1)), .fam 2 1 vf (bn E2 r.2.2.2.2.2.2.1), .os 2 1 vu (eM E2 r.2.2.2.2.2.2.2)])):=by
 unfold f10 at h
 refine cI func10 λ_ _ _ hmm=>?_
 refine Rcl 2 q (Bd q q (Zs _) q (Rll 8 q ?_))
 obtain⟨K,B,h⟩:=ac h
 refine wF Z4 (f37_c _ B) Lw Z3 (Rlc 3 q (Ci h q (λh=>?_) (λh=>?_)))
 refine Rcx 8 q ?_
 cases h
 refine Rcc 3 q (qC fh (qC fh (qC fh ?_)))
 obtain⟨e,C,h⟩:=ac h
 obtain⟨f,E,h⟩:=ac h
 obtain⟨g,F,h⟩:=ac h
 obtain⟨a,G,h⟩:=ac h
 obtain⟨j,H,h⟩:=ac h
 apply RT [_,_,_,_,_,_,_,_,_,_,_,_,_,_,_,_,_,_] [8,12,16] [[.rsv, .rsv, .rsv, .rsv, .os 101 5 0 (eM ek g), .rsv, .rsv],[.rsv, .rsv, .rsv, .rsv, .os 101 5 0 (eM ek g),oS 0 6 0 a,fS 0 a],[.rsv, .rsv, .rsv, .rsv, .os 101 5 0 (eM ek g),oS 0 6 0 a,fS 0 a, .row 90 [.l E45 e, .l bu f, .os 4 0, .n t0.excs, .os 5 0, .l E2 j,sN]]] [p01 2,p10 0,p10 1,p01 2,p10 3,p10 4,p01 2,p10 6,p10 7,([],[2],[0,1,2]),([9],[],[0,1,2]),u01 2,q10 11 1,([],[1],[0,1,2]),q10 13 2,([2,5,8,10,12,14],[],[2]),q10 15 2,q10 16 3] kR kR q q
 refine Y2 ?_
 refine zo (λ_=>wF Z4 (f38_c _ C) Lw Z3 (Zd q q q)) ?_
 refine Y2 ?_
 refine zo (λ_=>wF Z4 (f39_c _ E) Lw Z3 (Zd q q q)) ?_
 refine Y2 ?_
 refine zo (λ_=>?_) ?_
 refine WL.wing [4] q q q q (f40n_c _ F (v0:=0)) Lw q dC (Re q) ⟨q,Zt⟩ q q (Zw q) q q (λr' new hS=>?_)
 obtain⟨rfl,rfl⟩:=hS
 refine⟨_,_,q,(Ro q),q,Kv,?_⟩
 exact Zd q q q
 refine X3b ?_
 refine X2a ?_
 refine zo (λ_=>?_) ?_
 refine WL.wing [5,6] q q q q (f41_c _ G (vo:=0) (vf:=0)) Lw q dC (Re (Re q)) ⟨q,q,Zt⟩ q q (Zw q) q q (λr' new hS=>?_)
 obtain⟨rfl,rfl⟩:=hS
 refine⟨_,_,q,(Rg (Rf q)),q,Kv,?_⟩
 exact Zd q q q
 refine X3a ?_
 refine zo (λ_=>wF Z4 (f42_c _ H) Lw Z3 (Zd q q q)) ?_
 refine zo (λ_=>Zq (nK p90 z90 q q) q (Zd q q q)) ?_
 refine zo (λ_=>Bx q q q (Zd q q q)) ?_
 exact Y1 Zt
 refine Rxc 1 q (Jn1 (λ_=> [(6, .pt 7 0)]) (λm=> [.rsv, .rsv, .rsv, .rsv, .os 101 5 0 (eM ek m),oS 0 6 0 a,fS 0 a, .row 90 [.l E45 e, .l bu f, .os 4 0, .n t0.excs, .os 5 0, .l E2 j,sN]]) h (λI h=>?_) (λm h=>?_))
 refine Rcl 6 q (Zq (fp (ba ek) g e33 q q q) q (Rlc 4 q (Ln2 (λp _=> [(6, .pt 7 0),(32, .n (List.length g:Int)),(33, .n p)]) (λ_ t=> [.rsv, .rsv, .rsv, .rsv, .os 101 5 0 (eM ek t),oS 0 6 0 a,fS 0 a, .row 90 [.l E45 e, .l bu f, .os 4 0, .n t0.excs, .os 5 0, .l E2 j,sN]]) (f10_l1 g I) h (λ_ _ h=>by rw[f10_l1] at h;cases h) (λn p t h=>?_))))
 rw[f10_l1] at h
 refine Rcc 6 q (Ci h q (λh=>?_) (λh=>?_))
 refine Rcc 10 q ?_
 obtain⟨L,x,h⟩:=ac h
 obtain⟨y,J,h⟩:=ac h
 obtain⟨c,A,h⟩:=ac h
 apply RT [_,_,_,_,_,_,_,_,_,_,_,_,_,_,_,_, .u] [16] [[.rsv, .rsv, .rsv, .rsv, .os 101 5 0 (eM ek (List.set t (Int.toNat p) (Obj.mk c.size c.lo c.hi c.ptr y))),oS 0 6 0 a,fS 0 a, .row 90 [.l E45 e, .l bu f, .os 4 0, .n t0.excs, .os 5 0, .l E2 j,sN]]] [p01 6,p10 0,p10 1,p10 2,p01 7,p01 6,p10 5,p10 6,p10 7,p01 7,p20 8 9,p10 10,p10 11,p10 12,p20 3 4,p10 14,p20 15 13] kR kR q q
 refine Y9 ?_
 refine Y1 ?_
 refine zo (λ_=>Zq (kI e33 q q q x) q (Zd q q q)) ?_
 refine zo (λ_=>Zq (gF f101_4 q q) q (Zd q q q)) ?_
 refine zo (λ_=>Zq (iF (fo:=4) q q q a96 (λ_=>q) x q) q (Zd q q q)) ?_
 refine zo (λ_=>wF Z4 (f43_c _ J) Lw Z3 (Zd q q q)) ?_
 refine zo (λ_=>Zq (kI e33 q q q A) q (Zd q q q)) ?_
 refine zo (λ_=>Zq (gF f101_4 q q) q (Zd q q q)) ?_
 exact zo (λ_=>WL.s0 (cV (R:=ek) (k:=5) (i:=p) (fo:=4) (Obj.mk c.size c.lo c.hi c.ptr y) q q q q Zl q q q s96 q (λ_=>q) A q q) (Zw q) q (aT q q)) Zt
 exact Rxx 6 q (Fn2 h)
 exact Rcx 4 q (En1 h)
 refine Rcc 1 q (WC.nil_cell 7 6 2 1 q q (Rcx 7 q ?_))
 refine WE.freezeX [] [(7,2)] 4 _ q (am bH _) Zt ⟨_,_,q,q,Zt⟩ ?_
 obtain rfl:=Oi h
 exact fq (st1:=[.rsv, .rsv, .rsv, .rsv, .z,oS 0 6 0 a,fS 0 a, .row 90 (mR e f m t0.excs 5 0 j 8 0), .os 2 1 0 (eM E2 ([]:List Int))]) [7,5,6,8] (.tu [.pt 0 0, .d (.i .i64 0)]) [.row 90 (mR e f m t0.excs 1 0 j 3 0),oS 0 2 0 a,fS 0 a, .os 2 1 0 (eM E2 ([]:List Int))] (λi=>List.getD [0,0,0,0] i 0) (λi=>List.getD [0,vo,vf,vu] i 0) (rs2 q (ay q) (ay q)) q (Le.tu Lw) Tv dC (Re (Rg (Rf (Ro q)))) ⟨q,q,q,q,Zt⟩ Kv q hmm q q ⟨Zt,q,q,q,Zt⟩ q (ea (by simp[AO.rv,AV.rv]) (ea (su _ _ _ _ _ _ _ _ q) (ea (sv _ _ _ _ _ _ _ _) (ea (pY _ _ _ _ _ _ _ _) q)))) (by simp[AV.rv,AV.rvs]) ⟨q,q⟩

theorem f10b_c(t0:ai)(a:List Int){r:Unit×Int}(h:f10b t0 a=some r):Pu prog 10 [.ag (R38 t0), .sl (List.map E2 a)] (.tu [.v (nilOf r.1), .i .i64 r.2]):=by
 unfold f10b at h
 refine fI func10 λ_ _=>?_
 refine Rcl 2 q (Bd q q (Zs _) q (Rll 8 q ?_))
 obtain⟨d,c,h⟩:=ac h
 refine wF Z4 (f37_c _ c) Lw Z3 (Rlc 3 q (Ci h q (λh=>?_) (λh=>?_)))
 exact Rcx 8 q (FA h)
 refine Rcc 3 q ?_
 cases h

theorem f66_c(x0:ap):Pu prog 66 [.ag (R45 x0)] (.ag (R38 (f66 x0))):=by
 generalize h:f66 x0=r
 unfold f66 at h
 refine fI func66 λ_ _=>?_
 refine Rcl 2 q (Bd q q (Zs _) q (Al z38 q (Rll 5 q (Zq (aa p45 z45 q q) q (Zq (aa p45 z45 q q) q (WL.s ((NewOs.b (ae l23 z45 q dC dC q q q dC)).does) (Zw q) q q (Zq (aa p108 l9 q q) q (WL.s ((NewOs.b (ae l29 l9 q dC dC q q q dC)).does) (Zw q) q q (Zq (aa p101 mX q q) q (WL.s ((NewOs.b (NewOs.weak (es':=List.map (ba ek) [(Obj.mk 1 0 9 false [])]) (ae l33 mX q dC dC q q q dC) (by exact⟨⟨Zl,Zl,Zl,Zl,Le.nil,Zt⟩,Zt⟩))).does) (Zw q) q q (Zq (aa p164 tz q q) q (WL.s ((NewOs.b (NewOs.weak (es':=List.map (ba vY) [(cA.mk 0 [])]) (ae l35 tz q dC dC q q q dC) (by exact⟨⟨Zl,Le.nil,Zt⟩,Zt⟩))).does) (Zw q) q q (Zq (aa p27 z27 q q) q ?_)))))))))))))
 refine WL.s ((NewOs.b (NewOs.weak (es':=List.map (ba R27) [(ct.mk 0 0 [] 0)]) (ae l28 z27 q dC dC q q q dC) (by exact⟨⟨Zl,Zl,Le.nil,Zl,Zt⟩,Zt⟩))).does) (Zw q) q q (Zq (nK p38 z38 q q) q (WL.s0 (s8 q q q q q q s38 q q) (Zw q) q (St q (Rlx 3 q ?_))))
 refine WE.freezeX [6] [(0,0)] 1 _ q (am dg [x0,(ap.mk 57 0 0 0 0 0 0),(ap.mk 57 0 0 0 0 0 0)]) ⟨q,Zt⟩ ⟨_,_,q,q,Zt⟩ ?_
 refine WE.freezeX [8] [(0,1)] 2 _ q (am eg [(ak.mk 0 1 2 false)]) ⟨q,Zt⟩ ⟨_,_,q,q,Zt⟩ ?_
 refine WE.freezeX [10] [(0,5)] 3 _ q (am bH [(Obj.mk 1 0 9 false [])]) ⟨q,Zt⟩ ⟨_,_,q,q,Zt⟩ ?_
 refine WE.freezeX [14] [(0,8)] 5 _ q (am iX [(ct.mk 0 0 [] 0)]) ⟨q,Zt⟩ ⟨_,_,q,q,Zt⟩ ?_
 refine WE.freezeX [12] [(0,9)] 4 _ q (am jC [(cA.mk 0 [])]) ⟨q,Zt⟩ ⟨_,_,q,q,Zt⟩ ?_
 subst h
 exact ao (rs1 q (bc q q a38 s38 q)) (aj ⟨Zl,Zl,Le.nil,Le.nil,Le.nil,Zl,Le.nil,Zl,Zl,Zl,Le.nil,Zt⟩)

theorem f35_c(x0:ap)(v1:Int){r:aI×(List Act)×Int}(h:f35 x0 v1=some r):Pu prog 35 [.ag (R45 x0), .i .i64 v1] (.tu [.ag (R41 r.1), .sl (List.map E58 r.2.1), .i .i64 r.2.2]):=by
 unfold f35 at h
 refine fI func35 λ_ _=>?_
 refine Rcl 2 q (Bd q q (Zs _) q (Al z41 q (Rll 7 q (wF Z4 (f66_c _) Lw Z3 (WL.s ((NewOs.b (ae l42 z2 q dC dC q q q dC)).does) (Zw q) q q ?_)))))
 refine WL.freezeX [12] [] 1 _ q (am dJ [8]) ⟨q,Zt⟩ Zt ?_
 obtain⟨c,g,h⟩:=ac h
 rcases fT c with a|a
 replace h:=eb h a
 refine eo fh (eo fh (eo fh (eo fh ?_)))
 obtain⟨j,d,h⟩:=ac h
 refine WL.wing [2,3,4,5] q q q q (f10_c _ _ d (vo:=0) (vf:=0) (vu:=0)) Lw q dC (Re (Re (Re (Re q)))) ⟨q,q,q,q,Zt⟩ q q (Zw q) q q (λr' new hS=>?_)
 obtain⟨rfl,rfl⟩:=hS
 refine⟨_,_,q,(Re (Rg (Rf (Ro q)))),q,Kv,?_⟩
 refine St q (Rl 5 q (Zn (Rcc 7 q (Ci h q (λh=>?_) (λh=>?_)))))
 refine Rcl 2 q (Zq (aa p41 z41 q q) q (Rl 1 q (sS Z6 s41 Z2 (St q (Rlx 6 q ?_)))))
 obtain rfl:=Oi h
 exact ao (rs3 q (bc q q a41 s41 q) (ay q) (ay q)) (aV ⟨(aj (Zs _)),Le.nil,Zl,Zt⟩)
 refine Rcl 6 q (Zq (rS dI z39 q q) q (Zq (aa p41 z41 q q) q ?_))
 obtain⟨k,e,h⟩:=ac h
 refine WL.wing [2,3,4,5] q q q q (f11_c _ _ _ _ _ _ _ _ e) ⟨Zl,(aj (Zs _)),Zt⟩ q dC (Re (Rg (Rf (Ro q)))) ⟨q,q,q,q,Zt⟩ Kv q (Zw q) q q (λr' new hS=>?_)
 obtain⟨i2_35,i3_35,rfl,rfl⟩:=hS
 refine⟨_,_,q,(Re (Rg (Rf (Ro q)))),q,Kv,?_⟩
 refine St q (Rl 3 q (sS Z6 s41 Z2 (St q (Rlx 5 q ?_))))
 obtain rfl:=Oi h
 exact ao (rs3 q (bc q q a41 s41 q) (ay q) (ay q)) (aV ⟨(aj (Zs _)),Zl,Zl,Zt⟩)
 replace h:=ed h a
 obtain⟨m,f,h⟩:=ac h
 refine wF Z4 (f10b_c _ _ f) Lw Z3 (Rl 5 q (Zn (Rcc 7 q (Ci h q (λh=>?_) (λh=>?_)))))
 refine Rcl 2 q (Zq (aa p41 z41 q q) q (Rl 1 q (sS Z6 s41 Z2 (St q (Rlx 6 q ?_)))))
 obtain rfl:=Oi h
 exact ao (rs3 q (bc q q a41 s41 q) (ay q) (ay q)) (aV ⟨(aj (Zs _)),Le.nil,Zl,Zt⟩)
 refine Rcc 3 q ?_
 cases h

theorem f9_c{r:Bool}(h:f9=some r):Pu prog 9 [] (.b r):=by
 unfold f9 at h
 refine fI func9 λ_ _=>?_
 refine Rcl 7 q (Zq (aa p45 z45 q q) q ?_)
 obtain⟨f,p,h⟩:=ac h
 refine wF Z4 (f35_c _ _ p) ⟨(aj (Zs _)),Zl,Zt⟩ Z3 (Rl 4 q (Al z41 q (sS Z6 s41 Z2 (St q (Rll 6 q (Zq (aa p45 z45 q q) q ?_))))))
 obtain⟨J,w,h⟩:=ac h
 refine wF Z4 (f35_c _ _ w) ⟨(aj (Zs _)),Zl,Zt⟩ Z3 (Rl 4 q (Al z41 q (sS Z6 s41 Z2 (St q (Rll 6 q (Zq (aa p45 z45 q q) q ?_))))))
 obtain⟨K,x,h⟩:=ac h
 refine wF Z4 (f35_c _ _ x) ⟨(aj (Zs _)),Zl,Zt⟩ Z3 (Rl 4 q (Al z41 q (sS Z6 s41 Z2 (St q (Rll 6 q (Zq (aa p45 z45 q q) q ?_))))))
 obtain⟨L,y,h⟩:=ac h
 refine wF Z4 (f35_c _ _ y) ⟨(aj (Zs _)),Zl,Zt⟩ Z3 (Rl 4 q (Al z41 q (sS Z6 s41 Z2 (St q (Rll 6 q (Zq (aa p45 z45 q q) q ?_))))))
 obtain⟨M,A,h⟩:=ac h
 refine wF Z4 (f35_c _ _ A) ⟨(aj (Zs _)),Zl,Zt⟩ Z3 (Rl 4 q (Al z41 q (sS Z6 s41 Z2 (St q (Rll 6 q (Zq (aa p45 z45 q q) q ?_))))))
 obtain⟨g,B,h⟩:=ac h
 refine wF Z4 (f35_c _ _ B) ⟨(aj (Zs _)),Zl,Zt⟩ Z3 (Rl 4 q (Al z41 q (sS Z6 s41 Z2 (St q (Rll 6 q (Zq (aa p45 z45 q q) q ?_))))))
 obtain⟨C,E,h⟩:=ac h
 refine wF Z4 (f35_c _ _ E) ⟨(aj (Zs _)),Zl,Zt⟩ Z3 (Rl 4 q (Al z41 q (sS Z6 s41 Z2 (St q (Rll 7 q (Zq (aa p41 z41 q q) q (Zq (kK (xs:=(V41 f.1)) (ys:=[.int .i64 0, .int .i64 0, .int .i64 0, .int .i64 0, .int .i64 0, .int .i64 0, .int .i64 0, .int .i64 0, .int .i64 0, .int .i64 0, .int .i64 0, .int .i64 0, .int .i64 0, .int .i64 0, .int .i64 0, .int .i64 0, .int .i64 2, .int .i64 1, .int .i64 0]) q41 q (aj (Zs _)) q (aj (Zs _)) q q q) q (Rl 1 q ?_))))))))
 apply WL.and 4 (t:=68) (d:=72)
 exact q
 intro N
 exact Rl 1 q (Zy (ab E58 f.2.1 e50 q q Zl) q q q (Rl 2 q (WL.nil ⟨q,[_,_,_,_],q,q,q⟩)))
 exact Rn 4 4
 refine Rl 1 q ?_
 obtain⟨F,G,h⟩:=ac h
 refine Gg 6 73 79 F G (λh=>?_) (λh=>?_) ?_
 refine Rl 1 q ?_
 obtain⟨c,k,h⟩:=ac h
 refine Zy (ah e50 q Zl q (af k) (av eE k) q) q q q (Rl 1 q (Zy (aa p58 z58 q q) q q q (Zy (kK (xs:=[.int .i64 c.time, .int .i64 c.task, .int .u8 c.kind, .int .i64 c.a, .int .i64 c.b, .int .i64 c.n]) (ys:=[.int .i64 0, .int .i64 0, .int .u8 5, .int .i64 1, .int .i64 0, .int .i64 0]) q58 q Zl q (aj (Zs _)) q q q) q q q (Rl 1 q ?_))))
 obtain rfl:=Oi h
 exact Nn 6
 refine Rl 6 q ?_
 obtain rfl:=Oi h
 exact Nn 6
 refine Rl 1 q ?_
 refine Ag 3 80 83 (λ_=>Rn 3 3) (Rn 3 3) ?_
 refine Rl 1 q ?_
 refine Ag 3 84 87 (λ_=>Rn 3 3) (Rn 3 3) ?_
 refine Rl 1 q ?_
 refine Ag 3 88 91 (λ_=>Rn 3 3) (Rn 3 3) ?_
 refine Rl 1 q ?_
 refine Ag 3 92 95 (λ_=>Rn 3 3) (Rn 3 3) ?_
 refine Rl 1 q ?_
 refine Ag 3 96 99 (λ_=>Rn 3 3) (Rn 3 3) ?_
 refine Rll 7 q ?_
 refine Ag 3 101 104 (λ_=>Rn 3 3) (Rn 3 3) ?_
 refine Rl 1 q ?_
 apply WL.and 5 (t:=105) (d:=110)
 exact q
 intro O
 exact Rl 1 q (Zy (aB dI q q dC dC) q q q (Zy (cv (off:=0) (n:=16) (λj=> .n (g.1.r j)) q q a2 q dC) q q q (Rl 2 q (WL.nil ⟨q,[_,_,_,_,_],q,q,q⟩))))
 exact Rn 5 5
 refine Rl 1 q ?_
 apply WL.and 4 (t:=111) (d:=115)
 exact q
 intro P
 exact Rl 1 q (Zy (ab E58 g.2.1 e50 q q Zl) q q q (Rl 2 q (WL.nil ⟨q,[_,_,_,_],q,q,q⟩)))
 exact Rn 4 4
 refine Rl 1 q ?_
 obtain⟨H,I,h⟩:=ac h
 refine Gg 6 116 122 H I (λh=>?_) (λh=>?_) ?_
 refine Rl 1 q ?_
 obtain⟨e,m,h⟩:=ac h
 refine Zy (ah e50 q Zl q (af m) (av eE m) q) q q q (Rl 1 q (Zy (aa p58 z58 q q) q q q (Zy (kK (xs:=[.int .i64 e.time, .int .i64 e.task, .int .u8 e.kind, .int .i64 e.a, .int .i64 e.b, .int .i64 e.n]) (ys:=[.int .i64 0, .int .i64 0, .int .u8 2, .int .i64 8, .int .i64 0, .int .i64 0]) q58 q Zl q (aj (Zs _)) q q q) q q q (Rl 1 q ?_))))
 obtain rfl:=Oi h
 exact Nn 6
 refine Rl 6 q ?_
 obtain rfl:=Oi h
 exact Nn 6
 refine Rl 1 q ?_
 refine Ag 3 123 126 (λ_=>Rn 3 3) (Rn 3 3) ?_
 refine Rl 1 q ?_
 apply WL.and 5 (t:=127) (d:=132)
 exact q
 intro Q
 exact Rl 1 q (Zy (aB dI q q dC dC) q q q (Zy (cv (off:=0) (n:=16) (λj=> .n (C.1.r j)) q q a2 q dC) q q q (Rl 2 q (WL.nil ⟨q,[_,_,_,_,_],q,q,q⟩))))
 exact Rn 5 5
 refine Rl 1 q ?_
 refine Ag 4 133 137 (λ_=>Rn 4 4) (Rn 4 4) ?_
 refine Rl 1 q ?_
 apply WL.and 2 (t:=138) (d:=140)
 exact q
 intro R
 exact WL.fn q q q q (f36_c _) Lw (aX q q q) q q (Rl 1 q (WL.nil ⟨q,[_,_],q,q,q⟩))
 exact Rn 2 2
 refine Rl 1 q ?_
 apply WL.and 3 (t:=141) (d:=144)
 exact q
 intro S
 exact WL.fn q q q q (f36_c _) Lw (aX q q q) q q (Rl 2 q (WL.nil ⟨q,[_,_,_],q,q,q⟩))
 exact Rn 3 3
 exact Rlx 4 q (FA h)

theorem f34_c(o0:Obj)(v1:Int){r:Bool}(h:f34 o0 v1=some r):Pu prog 34 [.ag (ek o0), .i .i64 v1] (.b r):=by
 unfold f34 at h
 refine fI func34 λ_ _=>?_
 refine Rcl 2 q (Bd q q (Zs _) q (Rlc 11 q (Ci h q (λh=>?_) (λh=>?_))))
 refine Rcl 7 q ?_
 refine Ag 5 13 18 (λ_=>Rn 5 5) (Rn 5 5) ?_
 exact Rlx 5 q (FA h)
 refine Rcc 2 q (Jn0 [(1, .n v1)] [] h (λc h=>?_) (λh=>?_))
 refine Rcc 6 q (Ln1 (λa=> [(1, .n v1),(2, .d (.pc (ek o0))),(5, .n a)]) (λ_=> []) (f34_l1 o0 v1 c) h (λ_ h=>by rw[f34_l1] at h;cases h) (λn a h=>?_))
 rw[f34_l1] at h
 refine Rcl 6 q (Zq (ab E3 o0.set_ e96 q q Zl) q (Rlc 3 q (Ci h q (λh=>?_) (λh=>?_))))
 refine Rcl 10 q (Ix h e96 eU q Zl q q λe _ h=>(Rlc 5 q (Ci h q (λh=>?_) (λh=>?_))))
 exact Rcx 11 q (FA h)
 exact Rcx 8 q (Fn1 h)
 exact Rcx 4 q (En0 h)
 exact Rcx 8 q (FA h)

theorem f133_c(t0:ai)(o1:Obj){r:Bool}(h:f133 t0 o1=some r):Pu prog 133 [.ag (R38 t0), .ag (ek o1)] (.b r):=by
 unfold f133 at h
 refine fI func133 λ_ _=>?_
 refine Rcl 2 q (Bd q q (Zs _) q (Bd q q (Zs _) q (Rll 10 q ?_)))
 refine Og 4 10 14 (λ_=>Rn 4 4) (Rn 4 4) ?_
 refine Rl 1 q ?_
 refine Og 6 15 21 (λ_=>Rn 6 6) (Rn 6 6) ?_
 refine Rl 1 q ?_
 apply WL.or 10 (t:=22) (d:=32)
 exact q
 intro B
 refine Rl 4 q ?_
 apply WL.and 5 (t:=26) (d:=31)
 exact q
 intro C
 exact Rl 2 q (Zy (ab E3 o1.set_ e96 q q Zl) q q q (Rl 2 q (WL.nil ⟨q,[_,_,_,_,_],q,q,q⟩)))
 exact Rn 5 5
 exact Rn 1 6
 exact Rn 10 10
 refine Rl 1 q ?_
 apply WL.or 13 (t:=33) (d:=46)
 exact q
 intro E
 refine Rl 3 q ?_
 apply WL.and 9 (t:=36) (d:=45)
 exact q
 intro F
 refine Rl 4 q ?_
 refine Og 4 40 44 (λ_=>Rn 4 4) (Rn 4 4) ?_
 exact Rn 1 6
 exact Rn 9 9
 exact Rn 1 5
 exact Rn 13 13
 refine Rlc 2 q (Ci h q (λh=>?_) (λh=>?_))
 exact Rcx 7 q (FA h)
 refine Rcc 2 q (Jn0 [] [] h (λg h=>?_) (λh=>?_))
 refine Rcc 6 q (Ln1 (λa=> [(2, .d (.pc (R38 t0))),(3, .d (.pc (ek o1))),(5, .n a)]) (λ_=> []) (f133_l1 t0 o1 g) h (λ_ h=>by rw[f133_l1] at h;cases h) (λn a h=>?_))
 rw[f133_l1] at h
 refine Rcl 6 q (Zq (ab E3 o1.set_ e96 q q Zl) q (Rlc 3 q (Ci h q (λh=>?_) (λh=>?_))))
 refine Rcl 9 q (Ix h e96 eU q Zl q q λG _ h=>(Rll 9 q ?_))
 apply WL.or 6 (t:=61) (d:=67)
 exact q
 intro H
 exact Rl 3 q (Zy (ab bp t0.objs e33 q q Zl) q q q (Rl 2 q (WL.nil ⟨q,[_,_,_,_,_,_],q,q,q⟩)))
 exact Rn 6 6
 refine Rl 1 q ?_
 obtain⟨j,k,h⟩:=ac h
 refine Gg 8 68 76 j k (λh=>?_) (λh=>?_) ?_
 refine Rl 8 q ?_
 obtain rfl:=Oi h
 exact Nn 8
 refine Rl 3 q ?_
 obtain⟨I,c,h⟩:=ac h
 refine Zy (ah e33 q Zl q (af c) (av bH c) q) q q q (Rl 4 q ?_)
 obtain rfl:=Oi h
 exact Nn 8
 refine Rl 1 q ?_
 obtain⟨m,p,h⟩:=ac h
 refine Gg 7 77 84 m p (λh=>?_) (λh=>?_) ?_
 refine Rl 7 q ?_
 obtain rfl:=Oi h
 exact Nn 7
 refine Rl 3 q ?_
 obtain⟨J,e,h⟩:=ac h
 refine Zy (ah e33 q Zl q (af e) (av bH e) q) q q q (Rl 3 q ?_)
 obtain rfl:=Oi h
 exact Nn 7
 refine Rl 1 q ?_
 obtain⟨w,x,h⟩:=ac h
 refine Gg 13 85 98 w x (λh=>?_) (λh=>?_) ?_
 refine Rl 13 q ?_
 obtain rfl:=Oi h
 exact Nn 13
 refine Rl 3 q ?_
 obtain⟨y,A,h⟩:=ac h
 refine Gg 9 88 97 y A (λh=>?_) (λh=>?_) ?_
 refine Rl 4 q ?_
 obtain⟨K,f,h⟩:=ac h
 refine Zy (ah e96 q Zl q (af f) (av eU f) q) q q q (Rl 4 q ?_)
 obtain rfl:=Oi h
 exact Nn 9
 refine Rl 9 q ?_
 obtain rfl:=Oi h
 exact Nn 9
 refine Rl 1 q ?_
 obtain rfl:=Oi h
 exact Nn 5
 refine Rlc 2 q (Ci h q (λh=>?_) (λh=>?_))
 exact Rcx 11 q (FA h)
 exact Rcx 8 q (Fn1 h)
 exact Rcx 4 q (En0 h)
 exact Rcx 6 q (FA h)

theorem f134_c(t0:ai)(o1:Int)(a:Int)(c:Int){r:Bool}(h:f134 t0 o1 a c=some r):Pu prog 134 [.ag (R38 t0), .i .i64 o1, .i .i64 a, .i .i64 c] (.b r):=by
 unfold f134 at h
 refine fI func134 λ_ _=>?_
 refine Rcl 2 q (Bd q q (Zs _) q (Rll 8 q ?_))
 apply WL.and 6 (t:=11) (d:=17)
 exact q
 intro j
 exact Rl 3 q (Zy (ab bp t0.objs e33 q q Zl) q q q (Rl 2 q (WL.nil ⟨q,[_,_,_,_,_,_],q,q,q⟩)))
 exact Rn 6 6
 refine Rl 1 q ?_
 refine Ag 3 18 21 (λ_=>Rn 3 3) (Rn 3 3) ?_
 refine Rl 1 q ?_
 refine Ag 3 22 25 (λ_=>Rn 3 3) (Rn 3 3) ?_
 refine Rl 1 q ?_
 obtain⟨f,g,h⟩:=ac h
 refine Gg 11 26 37 f g (λh=>?_) (λh=>?_) ?_
 refine Rl 4 q ?_
 obtain⟨k,e,h⟩:=ac h
 refine Zy (ah e33 q Zl q (af e) (av bH e) q) q q q (Rl 6 q ?_)
 obtain rfl:=Oi h
 exact Nn 11
 refine Rl 11 q ?_
 obtain rfl:=Oi h
 exact Nn 11
 exact Rlx 4 q (FA h)

theorem f89_c(t0:ai){r:Bool}(h:f89 t0=some r):Pu prog 89 [.ag (R38 t0)] (.b r):=by
 unfold f89 at h
 refine fI func89 λ_ _=>?_
 refine Rcl 2 q (Bd q q (Zs _) q (Rll 8 q (Zq (ab bp t0.objs e33 q q Zl) q (Rl 2 q ?_))))
 refine Og 4 12 16 (λ_=>Rn 4 4) (Rn 4 4) ?_
 refine Rl 1 q ?_
 refine Og 4 17 21 (λ_=>Rn 4 4) (Rn 4 4) ?_
 refine Rl 1 q ?_
 apply WL.or 5 (t:=22) (d:=27)
 exact q
 intro O
 exact Rl 2 q (Zy (ab bU t0.inits e34 q q Zl) q q q (Rl 2 q (WL.nil ⟨q,[_,_,_,_,_],q,q,q⟩)))
 exact Rn 5 5
 refine Rlc 2 q (Ci h q (λh=>?_) (λh=>?_))
 exact Rcx 7 q (FA h)
 refine Rcc 7 q (Jn1 (λa=> [(1, .d (.pc (R38 t0))),(3, .n a)]) (λ_=> []) h (λG h=>?_) (λa h=>?_))
 refine Rcc 6 q (Ln2 (λj k=> [(1, .d (.pc (R38 t0))),(3, .n j),(4, .n k)]) (λ_ _=> []) (f89_l1 t0 G) h (λ_ _ h=>by rw[f89_l1] at h;cases h) (λn j k h=>?_))
 rw[f89_l1] at h
 refine Rcl 6 q (Zq (ab bp t0.objs e33 q q Zl) q (Rlc 3 q (Ci h q (λh=>?_) (λh=>?_))))
 refine Rcc 6 q (an kR kR (Rq 4 q ?_))
 obtain⟨P,m,h⟩:=ac h
 refine WQ.qn (ah e33 q Zl q (af m) (av bH m) q) q (Rq 1 q ?_)
 obtain⟨Q,H,h⟩:=ac h
 refine WQ.q (YieldsQ.fn q q q q q (f133_c _ _ H) Lw) (Zw q) q q (Rq 1 q (WQ.nil (Rxc 1 q (Ci h q (λh=>?_) (λh=>?_)))))
 exact Rcx 12 q (FA h)
 exact Rcl 7 q (Ix h e33 bH q Zl q q λR _ h=>(Rlx 12 q (Fn2 h)))
 exact Rcx 4 q (En1 h)
 refine Jn0 [(3, .n a)] [] h (λI h=>?_) (λh=>?_)
 refine Rcc 6 q (Ln1 (λc=> [(1, .d (.pc (R38 t0))),(3, .n a),(5, .n c)]) (λ_=> []) (f89_l2 t0 I) h (λ_ h=>by rw[f89_l2] at h;cases h) (λn c h=>?_))
 rw[f89_l2] at h
 refine Rcl 6 q (Zq (ab bU t0.inits e34 q q Zl) q (Rlc 3 q (Ci h q (λh=>?_) (λh=>?_))))
 refine Rcc 2 q (Jn3 (λ_ _ _=> [(1, .d (.pc (R38 t0))),(3, .n a),(5, .n c)]) (λp w x=> [.row 140 [.n p, .n w, .n x]]) h (λJ h=>?_) (λp w x h=>?_))
 refine Rcl 6 q (Ix h e34 eK q Zl q q λe _ h=>(Rl 1 q (Al vb q (sS Z6 vp Z2 (Rlc 4 q (an kR kR (Rq 5 q ?_)))))))
 obtain⟨S,K,h⟩:=ac h
 refine WQ.q (YieldsQ.fn q q q q q (f134_c _ _ _ _ K) Lw) (Zw q) q q (Rq 2 q ?_)
 obtain⟨L,y,h⟩:=ac h
 apply WQ.grp 11 (t:=70) (d:=81) (z:=L)
 exact q
 intro f
 have h:=eb y f
 refine Rq 11 q ?_
 obtain rfl:=Oi h
 exact WQ.nil ⟨[_,_,_,_,_,_,_,_,_,_,_],q,q,q⟩
 intro f
 have h:=ed y f
 refine Rq 4 q ?_
 obtain⟨T,A,h⟩:=ac h
 refine WQ.qy (ah e33 q Zl q (af A) (av bH A) q) q q q (Rq 3 q ?_)
 obtain⟨U,M,h⟩:=ac h
 refine WQ.q (YieldsQ.fn q q q q q (f34_c _ _ M) Lw) (aX q q q) q q (Rq 2 q ?_)
 obtain rfl:=Oi h
 exact WQ.nil ⟨[_,_,_,_,_,_,_,_,_,_,_],q,q,q⟩
 refine WQ.nil (Rxc 1 q (Ci h q (λh=>?_) (λh=>?_)))
 exact Rcx 12 q (FA h)
 refine Rcc 8 q (Ln1 (λB=> [(1, .d (.pc (R38 t0))),(3, .n a),(5, .n c),(6, .pt 0 0),(7, .n B)]) (λ_=> [.row 140 [.n e.o, .n e.slot, .n e.v]]) (f89_l3 t0 c J e) h (λ_ h=>by rw[f89_l3] at h;cases h) (λna B h=>?_))
 rw[f89_l3] at h
 refine Rcc 8 q (Ci h q (λh=>?_) (λh=>?_))
 refine Rcc 5 q (an kR kR (Rq 3 q ?_))
 obtain⟨V,C,h⟩:=ac h
 refine WQ.qn (ah e34 q Zl q (af C) (av eK C) q) q (Rq 6 q ?_)
 obtain⟨N,E,h⟩:=ac h
 apply WQ.grp 10 (t:=96) (d:=106) (z:=N)
 exact q
 intro g
 have h:=eb E g
 refine Rq 3 q ?_
 obtain⟨W,F,h⟩:=ac h
 refine WQ.qy (ah e34 q Zl q (af F) (av eK F) q) q q q (Rq 6 q ?_)
 obtain rfl:=Oi h
 exact WQ.nil ⟨[_,_,_,_,_,_,_,_,_,_],q,q,q⟩
 intro g
 have h:=ed E g
 refine Rq 10 q ?_
 obtain rfl:=Oi h
 exact WQ.nil ⟨[_,_,_,_,_,_,_,_,_,_],q,q,q⟩
 refine WQ.nil (Rxc 1 q (Ci h q (λh=>?_) (λh=>?_)))
 exact Rcx 15 q (FA h)
 exact Rcx 8 q (Fn1 h)
 exact Rcx 5 q (En3 h)
 exact Rcx 5 q (WE.drop 0 (env':=[(1, .d (.pc (R38 t0))),(3, .n a),(5, .n (IntKind.i64.wrap (c+1)))]) Sb q q (Nat.zero_le _) (Fn1 h))
 exact Rcx 4 q (En0 h)
 exact Rcx 8 q (FA h)

theorem f30_c(t0:ai)(a1:Int):Pu prog 30 [.ag (R38 t0), .i .i64 a1] (.b (f30 t0 a1)):=by
 generalize h:f30 t0 a1=r
 unfold f30 at h
 refine fI func30 λ_ _=>?_
 refine Rcl 2 q (Bd q q (Zs _) q (Rll 8 q ?_))
 apply WL.and 6 (t:=7) (d:=13)
 exact q
 intro a
 exact Rl 3 q (Zy (ab E45 t0.insns e23 q q Zl) q q q (Rl 2 q (WL.nil ⟨q,[_,_,_,_,_,_],q,q,q⟩)))
 exact Rn 6 6
 exact Rlx 4 q (FB h)

theorem f135_c(t0:ai)(l1:List Int){r:Bool}(h:f135 t0 l1=some r):Pu prog 135 [.ag (R38 t0), .sl (List.map E3 l1)] (.b r):=by
 unfold f135 at h
 refine fI func135 λ_ _=>?_
 refine Rcl 2 q (Bd q q (Zs _) q (Rll 7 q (Zq (ab E3 l1 e96 q q Zl) q (Rlc 3 q (Ci h q (λh=>?_) (λh=>?_))))))
 exact Rcx 7 q (FA h)
 refine Rcc 2 q (Jn0 [] [] h (λw h=>?_) (λh=>?_))
 refine Rcc 6 q (Ln1 (λe=> [(1, .l E3 l1),(2, .d (.pc (R38 t0))),(5, .n e)]) (λ_=> []) (f135_l1 t0 l1 w) h (λ_ h=>by rw[f135_l1] at h;cases h) (λn e h=>?_))
 rw[f135_l1] at h
 refine Rcl 5 q (Zq (ab E3 l1 e96 q q Zl) q (Rlc 3 q (Ci h q (λh=>?_) (λh=>?_))))
 refine Rcc 5 q (an kR kR (Rq 2 q ?_))
 obtain⟨A,f,h⟩:=ac h
 refine WQ.qn (ah e96 q Zl q (af f) (av eU f) q) q (Rq 3 q ?_)
 obtain⟨x,g,h⟩:=ac h
 apply WQ.grp 9 (t:=20) (d:=29) (z:=x)
 exact q
 intro a
 have h:=eb g a
 refine Rq 9 q ?_
 obtain rfl:=Oi h
 exact WQ.nil ⟨[_,_,_,_,_,_,_,_,_],q,q,q⟩
 intro a
 have h:=ed g a
 refine Rq 2 q ?_
 obtain⟨B,j,h⟩:=ac h
 refine WQ.qy (ah e96 q Zl q (af j) (av eU j) q) q q q (Rq 3 q (WQ.qy (ab bp t0.objs e33 q q Zl) q q q (Rq 2 q ?_)))
 obtain rfl:=Oi h
 exact WQ.nil ⟨[_,_,_,_,_,_,_,_,_],q,q,q⟩
 refine Rq 1 q ?_
 obtain⟨y,k,h⟩:=ac h
 apply WQ.grp 11 (t:=30) (d:=41) (z:=y)
 exact q
 intro c
 have h:=eb k c
 refine Rq 11 q ?_
 obtain rfl:=Oi h
 exact WQ.nil ⟨[_,_,_,_,_,_,_,_,_,_,_],q,q,q⟩
 intro c
 have h:=ed k c
 refine Rq 4 q ?_
 obtain⟨C,m,h⟩:=ac h
 refine WQ.qy (ah e96 q Zl q (af m) (av eU m) q) q q q (Rq 1 q ?_)
 obtain⟨E,p,h⟩:=ac h
 refine WQ.qy (ah e33 q Zl q (af p) (av bH p) q) q q q (Rq 4 q ?_)
 obtain rfl:=Oi h
 exact WQ.nil ⟨[_,_,_,_,_,_,_,_,_,_,_],q,q,q⟩
 refine WQ.nil (Rxc 1 q (Ci h q (λh=>?_) (λh=>?_)))
 exact Rcx 11 q (FA h)
 exact Rcx 8 q (Fn1 h)
 exact Rcx 4 q (En0 h)
 exact Rcx 6 q (FA h)

theorem f90_c(t0:ai){r:Bool}(h:f90 t0=some r):Pu prog 90 [.ag (R38 t0)] (.b r):=by
 unfold f90 at h
 refine fI func90 λ_ _=>?_
 refine Rcl 2 q (Bd q q (Zs _) q (Rll 8 q (Zq (ab E27 t0.tasks e28 q q Zl) q (Rl 2 q ?_))))
 apply WL.or 5 (t:=10) (d:=15)
 exact q
 intro F
 exact Rl 2 q (Zy (ab E27 t0.tasks e28 q q Zl) q q q (Rl 2 q (WL.nil ⟨q,[_,_,_,_,_],q,q,q⟩)))
 exact Rn 5 5
 refine Rlc 2 q (Ci h q (λh=>?_) (λh=>?_))
 exact Rcx 7 q (FA h)
 refine Rcc 2 q (Jn0 [] [] h (λy h=>?_) (λh=>?_))
 refine Rcc 6 q (Ln1 (λc=> [(1, .d (.pc (R38 t0))),(3, .n c)]) (λ_=> []) (f90_l1 t0 y) h (λ_ h=>by rw[f90_l1] at h;cases h) (λn c h=>?_))
 rw[f90_l1] at h
 refine Rcl 6 q (Zq (ab E27 t0.tasks e28 q q Zl) q (Rlc 3 q (Ci h q (λh=>?_) (λh=>?_))))
 refine Rcc 2 q (Jn4 (λ_ _ _ _=> [(1, .d (.pc (R38 t0))),(3, .n c)]) (λf g j k=> [.row 27 [.n f, .n g, .l iY j, .n k]]) h (λA h=>?_) (λf g j k h=>?_))
 refine Rcl 6 q (Ix h e28 iX q Zl q q λa _ h=>(Rl 1 q (Al z27 q (sS Z6 s27 Z2 (Rll 9 q ?_)))))
 refine Og 4 31 35 (λ_=>Rn 4 4) (Rn 4 4) ?_
 refine Rl 1 q ?_
 apply WL.or 6 (t:=36) (d:=42)
 exact q
 intro G
 exact Rl 3 q (WL.fn q q q q (f30_c _ _) Lw (aX q q q) q q (Rl 2 q (WL.nil ⟨q,[_,_,_,_,_,_],q,q,q⟩)))
 exact Rn 6 6
 refine Rl 1 q ?_
 refine Og 4 43 47 (λ_=>Rn 4 4) (Rn 4 4) ?_
 refine Rl 1 q ?_
 refine Og 4 48 52 (λ_=>Rn 4 4) (Rn 4 4) ?_
 refine Rl 1 q ?_
 apply WL.or 5 (t:=53) (d:=58)
 exact q
 intro H
 exact Rl 2 q (Zy (ab iY a.entries e25 q q Zl) q q q (Rl 2 q (WL.nil ⟨q,[_,_,_,_,_],q,q,q⟩)))
 exact Rn 5 5
 refine Rlc 2 q (Ci h q (λh=>?_) (λh=>?_))
 exact Rcx 12 q (FA h)
 refine Rcc 8 q (Ln1 (λm=> [(1, .d (.pc (R38 t0))),(3, .n c),(4, .pt 0 0),(5, .n m)]) (λ_=> [.row 27 [.n a.prio, .n a.at_, .l iY a.entries, .n a.deadline]]) (f90_l2 t0 A a) h (λ_ h=>by rw[f90_l2] at h;cases h) (λna m h=>?_))
 rw[f90_l2] at h
 refine Rcl 6 q (Zq (ab iY a.entries e25 q q Zl) q (Rlc 3 q (Ci h q (λh=>?_) (λh=>?_))))
 refine Rcc 5 q (an kR kR (Rq 4 q ?_))
 obtain⟨I,p,h⟩:=ac h
 refine WQ.qn (ah e25 q Zl q (af p) (av jB p) q) q (Rq 2 q ?_)
 obtain⟨J,B,h⟩:=ac h
 refine WQ.q (YieldsQ.fn q q q q q (f135_c _ _ B) Lw) (Zw q) q q (Rq 2 q ?_)
 obtain⟨C,w,h⟩:=ac h
 apply WQ.grp 10 (t:=75) (d:=85) (z:=C)
 exact q
 intro e
 have h:=eb w e
 refine Rq 10 q ?_
 obtain rfl:=Oi h
 exact WQ.nil ⟨[_,_,_,_,_,_,_,_,_,_],q,q,q⟩
 intro e
 have h:=ed w e
 refine Rq 4 q ?_
 obtain⟨K,x,h⟩:=ac h
 refine WQ.qy (ah e25 q Zl q (af x) (av jB x) q) q q q (Rq 2 q ?_)
 obtain⟨L,E,h⟩:=ac h
 refine WQ.q (YieldsQ.fn q q q q q (f135_c _ _ E) Lw) (aX q q q) q q (Rq 2 q ?_)
 obtain rfl:=Oi h
 exact WQ.nil ⟨[_,_,_,_,_,_,_,_,_,_],q,q,q⟩
 refine WQ.nil (Rxc 1 q (Ci h q (λh=>?_) (λh=>?_)))
 exact Rcx 15 q (FA h)
 exact Rcx 8 q (Fn1 h)
 exact Rcx 5 q (En4 h)
 exact Rcx 5 q (WE.drop 0 (env':=[(1, .d (.pc (R38 t0))),(3, .n (IntKind.i64.wrap (c+1)))]) Sb q q (Nat.zero_le _) (Fn1 h))
 exact Rcx 4 q (En0 h)
 exact Rcx 6 q (FA h)

theorem f136s_c(k:ai→Int→aR→Int→Int→Option (Int))(t0:ai)(a:Int)(e2:aR)(c:Int)(n4:Int)(E:∀(x0:ai)(x1:Int)(x2:aR)(x3:Int)(x4:Int)(r:Int),k x0 x1 x2 x3 x4=some r→Pu prog 136 [.ag (R38 x0), .i .i64 x1, .ag (jY x2), .i .i64 x3, .i .i64 x4] (.i .i64 r)){r:Int}(h:f136s k t0 a e2 c n4=some r):Pu prog 136 [.ag (R38 t0), .i .i64 a, .ag (jY e2), .i .i64 c, .i .i64 n4] (.i .i64 r):=by
 unfold f136s at h
 refine fI func136 λ_ _=>?_
 refine Rcl 2 q (Bd q q (Zs _) q (Bd q q (Zs _) q (Rll 9 q ?_)))
 refine Og 3 18 21 (λ_=>Rn 3 3) (Rn 3 3) ?_
 refine Rlc 2 q (Ci h q (λh=>?_) (λh=>?_))
 exact Rcx 7 q (FA h)
 refine Rcl 6 q (Zq (aa p179 rB q q) q (Al rB q (sS Z6 kz Z2 (Rlc 12 q (Jn6 (λm p _ _ _ _=> [(1, .n a),(3, .n c),(4, .n n4),(5, .d (.pc (R38 t0))),(7, .d (.pc (jY e2))),(11, .pt 0 0),(12, .n m),(13, .d (D.b p))]) (λ_ _ e f g j=> [.row 179 [.d (D.i .u8 e2.kind), .d (D.i .u8 e), .n f, .n g, .n j, .n 0, .n 0, .n 0,sN]]) h (λ_ h=>?_) (λm p e f g j h=>?_))))))
 refine Rcc 13 q (Ci h q (λh=>?_) (λh=>?_))
 exact Rcl 4 q (sS Z6 s2 Z2 (Rlx 2 q (En6 h)))
 refine Rcc 6 q (Ci h q (λh=>?_) (λh=>?_))
 refine Rcl 5 q (sS Z6 s3 Z2 (Rll 7 q (sS Z6 s3 Z2 (Rll 8 q ?_))))
 obtain⟨K,F,h⟩:=ac h
 refine wF Z4 (f134_c _ _ _ _ F) Lw Z3 (Rl 1 q ?_)
 obtain⟨G,H,h⟩:=ac h
 refine Gg 9 46 55 G H (λh=>?_) (λh=>?_) ?_
 refine Rl 4 q ?_
 obtain⟨L,w,h⟩:=ac h
 refine Zy (ah e33 q Zl q (af w) (av bH w) q) q q q (Rl 4 q ?_)
 obtain rfl:=Oi h
 exact Nn 9
 refine Rl 9 q ?_
 obtain rfl:=Oi h
 exact Nn 9
 exact Rlx 3 q (En6 h)
 refine Rcc 6 q (Ci h q (λh=>?_) (λh=>?_))
 refine Rcl 5 q (sS Z6 s2 Z2 (Rll 7 q ?_))
 refine Ag 5 64 69 (λ_=>Rn 5 5) (Rn 5 5) ?_
 exact Rlx 3 q (En6 h)
 refine Rcc 6 q (Ci h q (λh=>?_) (λh=>?_))
 exact Rcl 3 q (sS Z6 tY Z2 (Rlx 6 q (En6 h)))
 refine Rcc 6 q (Ci h q (λh=>?_) (λh=>?_))
 refine Rcl 5 q (sS Z6 tY Z2 (Rll 12 q ?_))
 refine Ag 4 81 85 (λ_=>Rn 4 4) (Rn 4 4) ?_
 exact Rlx 3 q (En6 h)
 refine Jn1 (λx=> [(1, .n a),(3, .n c),(4, .n n4),(5, .d (.pc (R38 t0))),(7, .d (.pc (jY e2))),(11, .pt 0 0),(13, .d (D.b true)),(86, .d (D.b x))]) (λ_=> [.row 179 [.d (D.i .u8 e2.kind), .d (D.i .u8 0), .n 0, .n 0, .n 0, .n 0, .n 0, .n 0,sN]]) h (λ_ h=>?_) (λx h=>?_)
 refine Rcc 6 q (Ci h q (λh=>?_) (λh=>?_))
 exact Rcx 1 q (En1 h)
 exact Rcx 4 q (En1 h)
 refine Ci h q (λh=>?_) (λh=>?_)
 exact Rcx 4 q (En6 h)
 exact Rcx 8 q (FA h)
 refine Rcl 8 q ?_
 refine Ag 6 94 100 (λ_=>Rn 6 6) (Rn 6 6) ?_
 refine Rl 1 q ?_
 refine Ag 6 101 107 (λ_=>Rn 6 6) (Rn 6 6) ?_
 refine Rl 1 q ?_
 refine Ag 6 108 114 (λ_=>Rn 6 6) (Rn 6 6) ?_
 refine Rl 1 q ?_
 refine Ag 4 115 119 (λ_=>Rn 4 4) (Rn 4 4) ?_
 refine Rl 1 q ?_
 refine Ag 4 120 124 (λ_=>Rn 4 4) (Rn 4 4) ?_
 refine Rl 1 q ?_
 refine Ag 4 125 129 (λ_=>Rn 4 4) (Rn 4 4) ?_
 refine Rll 9 q ?_
 refine Og 3 132 135 (λ_=>Rn 3 3) (Rn 3 3) ?_
 refine Rl 1 q ?_
 apply WL.or 6 (t:=136) (d:=142)
 exact q
 intro M
 exact Rl 2 q (Zy (ab dB e2.l iq q q Zl) q q q (Rl 3 q (WL.nil ⟨q,[_,_,_,_,_,_],q,q,q⟩)))
 exact Rn 6 6
 refine Rlc 2 q (Ci h q (λh=>?_) (λh=>?_))
 exact Rcx 7 q (FA h)
 refine Rcc 9 q (Jn1 (λy=> [(4, .n y)]) (λ_=> [.row 179 [.d (D.i .u8 e2.kind), .d (D.i .u8 e), .n f, .n g, .n j, .n 0, .n 0, .n 0,sN]]) h (λI h=>?_) (λy h=>?_))
 refine Rcc 6 q (Ln2 (λA B=> [(1, .n a),(3, .n c),(4, .n A),(5, .d (.pc (R38 t0))),(7, .d (.pc (jY e2))),(15, .n B)]) (λ_ _=> [.row 179 [.d (D.i .u8 e2.kind), .d (D.i .u8 e), .n f, .n g, .n j, .n 0, .n 0, .n 0,sN]]) (f136s_l1 k t0 a e2 c I) h (λ_ _ h=>by rw[f136s_l1] at h;cases h) (λn A B h=>?_))
 rw[f136s_l1] at h
 refine Rcl 6 q (Zq (ab dB e2.l iq q q Zl) q (Rl 2 q ?_))
 refine Ag 3 150 153 (λ_=>Rn 3 3) (Rn 3 3) ?_
 refine Rlc 2 q (Ci h q (λh=>?_) (λh=>?_))
 refine Rcc 4 q (an kR kR (Rq 5 q ?_))
 obtain⟨N,C,h⟩:=ac h
 refine WQ.qn (ah iq q Zl q (af C) (av il C) q) q (Rq 4 q ?_)
 obtain⟨O,J,h⟩:=ac h
 exact WQ.q (YieldsQ.fn q q q q q (E _ _ _ _ _ _ J) Lw) (Zw q) q q (Rq 1 q (WQ.nil (Rxx 7 q (Fn2 h))))
 exact Rcx 4 q (En1 h)
 exact Rcx 7 q (FA h)

theorem f136_c:∀(n:Nat)(x0:ai)(x1:Int)(x2:aR)(x3:Int)(x4:Int){r:Int},f136 n x0 x1 x2 x3 x4=some r→Pu prog 136 [.ag (R38 x0), .i .i64 x1, .ag (jY x2), .i .i64 x3, .i .i64 x4] (.i .i64 r)
 |0,_,_,_,_,_,_,h=>by cases h
 |n+1,x0,x1,x2,x3,x4,_,h=>f136s_c (f136 n) x0 x1 x2 x3 x4 (λx0 x1 x2 x3 x4 _ h=>f136_c n x0 x1 x2 x3 x4 h) h

theorem f137_c(t0:ai)(a1:Int){r:Bool}(h:f137 t0 a1=some r):Pu prog 137 [.ag (R38 t0), .i .i64 a1] (.b r):=by
 unfold f137 at h
 refine fI func137 λ_ _=>?_
 refine Rcl 2 q (Bd q q (Zs _) q (Rll 7 q (wF Z4 (f30_c _ _) Lw Z3 (Rl 1 q ?_))))
 obtain⟨d,e,h⟩:=ac h
 refine Gg 17 8 25 d e (λh=>?_) (λh=>?_) ?_
 refine Rl 3 q ?_
 obtain⟨j,a,h⟩:=ac h
 refine Zy (ah e23 q Zl q (af a) (av dg a) q) q q q (Rl 4 q ?_)
 obtain⟨f,g,h⟩:=ac h
 refine Gg 8 16 24 f g (λh=>?_) (λh=>?_) ?_
 refine Rl 8 q ?_
 obtain rfl:=Oi h
 exact Nn 8
 refine Rl 3 q ?_
 obtain⟨k,c,h⟩:=ac h
 refine Zy (ah e23 q Zl q (af c) (av dg c) q) q q q (Rl 4 q ?_)
 obtain rfl:=Oi h
 exact Nn 8
 refine Rl 1 q ?_
 obtain rfl:=Oi h
 exact Nn 10
 refine Rl 17 q ?_
 obtain rfl:=Oi h
 exact Nn 17
 exact Rlx 4 q (FA h)

theorem f91_c(t0:ai){r:Bool}(h:f91 t0=some r):Pu prog 91 [.ag (R38 t0)] (.b r):=by
 unfold f91 at h
 refine fI func91 λ_ _=>?_
 refine Rcl 2 q (Bd q q (Zs _) q (Rll 8 q (Zq (ab bN t0.prots e35 q q Zl) q (Rlc 3 q (Ci h q (λh=>?_) (λh=>?_))))))
 exact Rcx 7 q (FA h)
 refine Rcc 2 q (Jn0 [(1, .d (.pc (R38 t0)))] [] h (λA h=>?_) (λh=>?_))
 refine Rcc 6 q (Ln1 (λc=> [(1, .d (.pc (R38 t0))),(3, .n c)]) (λ_=> []) (f91_l1 t0 A) h (λ_ h=>by rw[f91_l1] at h;cases h) (λn c h=>?_))
 rw[f91_l1] at h
 refine Rcl 6 q (Zq (ab bN t0.prots e35 q q Zl) q (Rlc 3 q (Ci h q (λh=>?_) (λh=>?_))))
 refine Rcc 2 q (Jn2 (λ_ _=> [(1, .d (.pc (R38 t0))),(3, .n c)]) (λj k=> [.row 164 [.n j, .l dB k]]) h (λB h=>?_) (λj k h=>?_))
 refine Rcl 6 q (Ix h e35 jC q Zl q q λa _ h=>(Rl 1 q (Al tz q (sS Z6 s164 Z2 (Rll 9 q ?_)))))
 refine Og 4 27 31 (λ_=>Rn 4 4) (Rn 4 4) ?_
 refine Rl 1 q ?_
 apply WL.or 5 (t:=32) (d:=37)
 exact q
 intro I
 exact Rl 2 q (Zy (ab dB a.barriers iq q q Zl) q q q (Rl 2 q (WL.nil ⟨q,[_,_,_,_,_],q,q,q⟩)))
 exact Rn 5 5
 refine Rlc 2 q (Ci h q (λh=>?_) (λh=>?_))
 exact Rcx 12 q (FA h)
 refine Rcc 8 q (Ln1 (λm=> [(1, .d (.pc (R38 t0))),(3, .n c),(4, .pt 0 0),(5, .n m)]) (λ_=> [.row 164 [.n a.ceiling, .l dB a.barriers]]) (f91_l2 t0 B a) h (λ_ h=>by rw[f91_l2] at h;cases h) (λna m h=>?_))
 rw[f91_l2] at h
 refine Rcl 6 q (Zq (ab dB a.barriers iq q q Zl) q (Rlc 3 q (Ci h q (λh=>?_) (λh=>?_))))
 refine Rcc 5 q (an kR kR (Rq 3 q (WQ.qn (ab dB a.barriers iq q q Zl) q (Rq 3 q ?_))))
 obtain⟨J,p,h⟩:=ac h
 refine WQ.qn (ah iq q Zl q (af p) (av il p) q) q (Rq 1 q ?_)
 obtain⟨K,C,h⟩:=ac h
 refine WQ.q (YieldsQ.fn q q q q q (f136_c 67 _ _ _ _ _ C) Lw) (Zw q) q q (Rq 1 q (WQ.nil (Rxc 1 q (Ci h q (λh=>?_) (λh=>?_)))))
 exact Rcx 15 q (FA h)
 exact Rcx 8 q (Fn1 h)
 exact Rcx 5 q (En2 h)
 exact Rcx 5 q (WE.drop 0 (env':=[(1, .d (.pc (R38 t0))),(3, .n (IntKind.i64.wrap (c+1)))]) Sb q q (Nat.zero_le _) (Fn1 h))
 exact Rcx 4 q (En0 h)
 refine Jn0 [] [] h (λE h=>?_) (λh=>?_)
 refine Rcc 6 q (Ln1 (λe=> [(1, .d (.pc (R38 t0))),(6, .n e)]) (λ_=> []) (f91_l3 t0 E) h (λ_ h=>by rw[f91_l3] at h;cases h) (λn e h=>?_))
 rw[f91_l3] at h
 refine Rcl 6 q (Zq (ab co t0.checks e36 q q Zl) q (Rlc 3 q (Ci h q (λh=>?_) (λh=>?_))))
 refine Rcl 9 q (Ix h e36 nB q Zl q q λL _ h=>(Rl 1 q (Al z192 q (sS Z6 s192 Z2 (Rlc 3 q (an kR kR (Rq 3 q ?_)))))))
 obtain⟨M,F,h⟩:=ac h
 refine WQ.q (YieldsQ.fn q q q q q (f137_c _ _ F) Lw) (Zw q) q q (Rq 2 q ?_)
 obtain⟨G,w,h⟩:=ac h
 apply WQ.grp 15 (t:=73) (d:=88) (z:=G)
 exact q
 intro f
 have h:=eb w f
 refine Rq 15 q ?_
 obtain rfl:=Oi h
 exact WQ.nil ⟨[_,_,_,_,_,_,_,_,_,_,_,_,_,_,_],q,q,q⟩
 intro f
 have h:=ed w f
 refine Rq 3 q ?_
 obtain⟨H,x,h⟩:=ac h
 apply WQ.grp 11 (t:=76) (d:=87) (z:=H)
 exact q
 intro g
 have h:=eb x g
 refine Rq 4 q ?_
 obtain⟨N,y,h⟩:=ac h
 refine WQ.qy (ah e36 q Zl q (af y) (av nB y) q) q q q (Rq 6 q ?_)
 obtain rfl:=Oi h
 exact WQ.nil ⟨[_,_,_,_,_,_,_,_,_,_,_],q,q,q⟩
 intro g
 have h:=ed x g
 refine Rq 11 q ?_
 obtain rfl:=Oi h
 exact WQ.nil ⟨[_,_,_,_,_,_,_,_,_,_,_],q,q,q⟩
 refine Rq 1 q ?_
 obtain rfl:=Oi h
 exact WQ.nil ⟨[_,_,_,_,_],q,q,q⟩
 refine Rq 1 q ?_
 apply WQ.or 4 (t:=89) (d:=93)
 exact q
 intro O
 exact Rq 4 q (WQ.nil ⟨[_,_,_,_],q,q,q⟩)
 exact Rq 4 q (WQ.nil ⟨[_,_,_,_],q,q,q⟩)
 refine Rq 1 q ?_
 apply WQ.or 4 (t:=94) (d:=98)
 exact q
 intro P
 exact Rq 4 q (WQ.nil ⟨[_,_,_,_],q,q,q⟩)
 exact Rq 4 q (WQ.nil ⟨[_,_,_,_],q,q,q⟩)
 refine WQ.nil (Rxc 1 q (Ci h q (λh=>?_) (λh=>?_)))
 exact Rcx 11 q (FA h)
 exact Rcx 8 q (WE.drop 0 (env':=[(1, .d (.pc (R38 t0))),(6, .n (IntKind.i64.wrap (e+1)))]) Sb q q (Nat.zero_le _) (Fn1 h))
 exact Rcx 4 q (En0 h)
 exact Rcx 6 q (FA h)

theorem f138_c(t0:ai)(a:Int)(a2:iW){r:Bool}(h:f138 t0 a a2=some r):Pu prog 138 [.ag (R38 t0), .i .i64 a, .ag (pR a2)] (.b r):=by
 unfold f138 at h
 refine fI func138 λ_ _=>?_
 refine Rcl 2 q (Bd q q (Zs _) q (Bd q q (Zs _) q (Rll 9 q (wF Z4 (f30_c _ _) Lw Z3 (Rl 2 q ?_)))))
 obtain⟨e,f,h⟩:=ac h
 refine Gg 12 12 24 e f (λh=>?_) (λh=>?_) ?_
 refine Rl 12 q ?_
 obtain rfl:=Oi h
 exact Nn 12
 refine Rl 4 q ?_
 obtain⟨g,j,h⟩:=ac h
 refine Gg 7 16 23 g j (λh=>?_) (λh=>?_) ?_
 refine Rl 4 q ?_
 obtain⟨w,k,h⟩:=ac h
 refine WL.fn q q q q (f134_c _ _ _ _ k) Lw (aX q q q) q q (Rl 2 q ?_)
 obtain rfl:=Oi h
 exact Nn 7
 refine Rl 7 q ?_
 obtain rfl:=Oi h
 exact Nn 7
 refine Rl 1 q ?_
 obtain rfl:=Oi h
 exact Nn 6
 refine Rlc 2 q (Ci h q (λh=>?_) (λh=>?_))
 exact Rcx 7 q (FA h)
 refine Rcc 16 q (Ci h q (λh=>?_) (λh=>?_))
 refine Rcl 6 q ?_
 refine Ag 4 32 36 (λ_=>Rn 4 4) (Rn 4 4) ?_
 refine Rl 1 q ?_
 refine Ag 4 37 41 (λ_=>Rn 4 4) (Rn 4 4) ?_
 exact Rlx 6 q (FA h)
 refine Jn1 (λc=> [(1, .n a),(3, .d (.pc (R38 t0))),(5, .d (.pc (pR a2))),(42, .d (D.b c))]) (λ_=> []) h (λ_ h=>?_) (λc h=>?_)
 refine Rcc 6 q (Ci h q (λh=>?_) (λh=>?_))
 exact Rcx 1 q (En1 h)
 exact Rcx 4 q (En1 h)
 refine Ci h q (λh=>?_) (λh=>?_)
 refine Rcl 6 q ?_
 obtain⟨m,p,h⟩:=ac h
 refine Gg 6 48 54 m p (λh=>?_) (λh=>?_) ?_
 refine Rl 4 q ?_
 obtain⟨x,t,h⟩:=ac h
 refine WL.fn q q q q (f134_c _ _ _ _ t) Lw (aX q q q) q q (Rl 1 q ?_)
 obtain rfl:=Oi h
 exact Nn 6
 refine Rl 6 q ?_
 obtain rfl:=Oi h
 exact Nn 6
 exact Rlx 6 q (FA h)
 refine Rcl 9 q ?_
 refine Ag 4 58 62 (λ_=>Rn 4 4) (Rn 4 4) ?_
 refine Rl 1 q ?_
 refine Ag 4 63 67 (λ_=>Rn 4 4) (Rn 4 4) ?_
 exact Rlx 4 q (FA h)

theorem f92_c(t0:ai){r:Bool}(h:f92 t0=some r):Pu prog 92 [.ag (R38 t0)] (.b r):=by
 unfold f92 at h
 refine fI func92 λ_ _=>?_
 refine Rcl 2 q (Bd q q (Zs _) q (Rll 8 q (Zq (ab bX t0.selects e31 q q Zl) q (Rl 2 q ?_))))
 apply WL.or 5 (t:=14) (d:=19)
 exact q
 intro Q
 exact Rl 2 q (Zy (ab E96 t0.lists e32 q q Zl) q q q (Rl 2 q (WL.nil ⟨q,[_,_,_,_,_],q,q,q⟩)))
 exact Rn 5 5
 refine Rlc 2 q (Ci h q (λh=>?_) (λh=>?_))
 exact Rcx 7 q (FA h)
 refine Rcc 2 q (Jn0 [(1, .d (.pc (R38 t0)))] [] h (λG h=>?_) (λh=>?_))
 refine Rcc 6 q (Ln1 (λf=> [(1, .d (.pc (R38 t0))),(3, .n f)]) (λ_=> []) (f92_l1 t0 G) h (λ_ h=>by rw[f92_l1] at h;cases h) (λn f h=>?_))
 rw[f92_l1] at h
 refine Rcl 6 q (Zq (ab bX t0.selects e31 q q Zl) q (Rlc 3 q (Ci h q (λh=>?_) (λh=>?_))))
 refine Rcc 2 q (Jn3 (λ_ _ _=> [(1, .d (.pc (R38 t0))),(3, .n f)]) (λk m p=> [.row 155 [.l fW k, .n m, .n p]]) h (λH h=>?_) (λk m p h=>?_))
 refine Rcl 6 q (Ix h e31 qG q Zl q q λa _ h=>(Rl 1 q (Al z155 q (sS Z6 s155 Z2 (Rll 7 q (Zq (ab fW a.alts oC q q Zl) q (Rl 2 q ?_)))))))
 apply WL.or 5 (t:=36) (d:=41)
 exact q
 intro R
 exact Rl 2 q (Zy (ab fW a.alts oC q q Zl) q q q (Rl 2 q (WL.nil ⟨q,[_,_,_,_,_],q,q,q⟩)))
 exact Rn 5 5
 refine Rl 1 q ?_
 obtain⟨I,J,h⟩:=ac h
 refine Gg 6 42 48 I J (λh=>?_) (λh=>?_) ?_
 refine Rl 6 q ?_
 obtain rfl:=Oi h
 exact Nn 6
 refine Rl 3 q ?_
 obtain⟨S,K,h⟩:=ac h
 refine WL.fn q q q q (f134_c _ _ _ _ K) Lw (aX q q q) q q (Rl 2 q ?_)
 obtain rfl:=Oi h
 exact Nn 6
 refine Rl 1 q ?_
 apply WL.or 11 (t:=49) (d:=60)
 exact q
 intro T
 refine Rl 4 q ?_
 apply WL.and 6 (t:=53) (d:=59)
 exact q
 intro U
 exact Rl 3 q (WL.fn q q q q (f30_c _ _) Lw (aX q q q) q q (Rl 2 q (WL.nil ⟨q,[_,_,_,_,_,_],q,q,q⟩)))
 exact Rn 6 6
 exact Rn 1 6
 exact Rn 11 11
 refine Rlc 2 q (Ci h q (λh=>?_) (λh=>?_))
 exact Rcx 12 q (FA h)
 refine Rcc 8 q (Ln1 (λw=> [(1, .d (.pc (R38 t0))),(3, .n f),(4, .pt 0 0),(5, .n w)]) (λ_=> [.row 155 [.l fW a.alts, .n a.obj, .n a.else_]]) (f92_l2 t0 H a) h (λ_ h=>by rw[f92_l2] at h;cases h) (λna w h=>?_))
 rw[f92_l2] at h
 refine Rcl 6 q (Zq (ab fW a.alts oC q q Zl) q (Rlc 3 q (Ci h q (λh=>?_) (λh=>?_))))
 refine Rcc 5 q (an kR kR (Rq 6 q ?_))
 obtain⟨V,x,h⟩:=ac h
 refine WQ.qn (ah oC q Zl q (af x) (av qF x) q) q (Rq 1 q ?_)
 obtain⟨W,L,h⟩:=ac h
 refine WQ.q (YieldsQ.fn q q q q q (f138_c _ _ _ L) Lw) (Zw q) q q (Rq 1 q (WQ.nil (Rxc 1 q (Ci h q (λh=>?_) (λh=>?_)))))
 exact Rcx 15 q (FA h)
 exact Rcx 8 q (Fn1 h)
 exact Rcx 5 q (En3 h)
 exact Rcx 5 q (WE.drop 0 (env':=[(1, .d (.pc (R38 t0))),(3, .n (IntKind.i64.wrap (f+1)))]) Sb q q (Nat.zero_le _) (Fn1 h))
 exact Rcx 4 q (En0 h)
 refine Jn0 [] [] h (λM h=>?_) (λh=>?_)
 refine Rcc 6 q (Ln1 (λe=> [(1, .d (.pc (R38 t0))),(6, .n e)]) (λ_=> []) (f92_l3 t0 M) h (λ_ h=>by rw[f92_l3] at h;cases h) (λn e h=>?_))
 rw[f92_l3] at h
 refine Rcl 6 q (Zq (ab E96 t0.lists e32 q q Zl) q (Rlc 3 q (Ci h q (λh=>?_) (λh=>?_))))
 refine Rcc 2 q (Jn0 [(1, .d (.pc (R38 t0))),(6, .n e)] [] h (λN h=>?_) (λh=>?_))
 refine Rcl 6 q (Ix h e32 tv q Zl q q λc _ h=>(Rll 8 q (Zq (ab E3 c e96 q q Zl) q (Rlc 3 q (Ci h q (λh=>?_) (λh=>?_))))))
 exact Rcx 12 q (FA h)
 refine Rcc 8 q (Ln1 (λg=> [(1, .d (.pc (R38 t0))),(6, .n e),(7, .l E3 c),(8, .n g)]) (λ_=> []) (f92_l4 t0 N c) h (λ_ h=>by rw[f92_l4] at h;cases h) (λna g h=>?_))
 rw[f92_l4] at h
 refine Rcl 5 q (Zq (ab E3 c e96 q q Zl) q (Rlc 3 q (Ci h q (λh=>?_) (λh=>?_))))
 refine Rcc 2 q (Jn0 [(1, .d (.pc (R38 t0))),(6, .n e),(7, .l E3 c),(8, .n g)] [] h (λO h=>?_) (λh=>?_))
 refine Rcc 3 q (an kR kR (Rq 2 q ?_))
 obtain⟨X,y,h⟩:=ac h
 refine WQ.qn (ah e96 q Zl q (af y) (av eU y) q) q (Rq 3 q ?_)
 obtain⟨P,A,h⟩:=ac h
 apply WQ.grp 9 (t:=104) (d:=113) (z:=P)
 exact q
 intro j
 have h:=eb A j
 refine Rq 9 q ?_
 obtain rfl:=Oi h
 exact WQ.nil ⟨[_,_,_,_,_,_,_,_,_],q,q,q⟩
 intro j
 have h:=ed A j
 refine Rq 2 q ?_
 obtain⟨Y,B,h⟩:=ac h
 refine WQ.qy (ah e96 q Zl q (af B) (av eU B) q) q q q (Rq 3 q (WQ.qy (ab E27 t0.tasks e28 q q Zl) q q q (Rq 2 q ?_)))
 obtain rfl:=Oi h
 exact WQ.nil ⟨[_,_,_,_,_,_,_,_,_],q,q,q⟩
 refine WQ.nil (Rxc 1 q (Ci h q (λh=>?_) (λh=>?_)))
 exact Rcx 16 q (FA h)
 refine Rcc 8 q (Ln1 (λC=> [(1, .d (.pc (R38 t0))),(6, .n e),(7, .l E3 c),(8, .n g),(9, .n C)]) (λ_=> []) (f92_l5 c g O) h (λ_ h=>by rw[f92_l5] at h;cases h) (λnb C h=>?_))
 rw[f92_l5] at h
 refine Rcc 8 q (Ci h q (λh=>?_) (λh=>?_))
 refine Rcc 5 q (an kR kR (Rq 2 q ?_))
 obtain⟨Z,E,h⟩:=ac h
 refine WQ.qn (ah e96 q Zl q (af E) (av eU E) q) q (Rq 3 q ?_)
 obtain⟨ad,F,h⟩:=ac h
 refine WQ.qn (ah e96 q Zl q (af F) (av eU F) q) q (Rq 2 q (WQ.nil (Rxc 1 q (Ci h q (λh=>?_) (λh=>?_)))))
 exact Rcx 19 q (FA h)
 exact Rcx 8 q (Fn1 h)
 exact Rcx 5 q (En0 h)
 exact Rcx 5 q (Fn1 h)
 exact Rcx 5 q (En0 h)
 exact Rcx 5 q (Fn1 h)
 exact Rcx 4 q (En0 h)
 exact Rcx 6 q (FA h)

theorem f93_c(t0:ai){r:Bool}(h:f93 t0=some r):Pu prog 93 [.ag (R38 t0)] (.b r):=by
 unfold f93 at h
 refine fI func93 λ_ _=>?_
 refine Rcl 2 q (Bd q q (Zs _) q (Rll 8 q (Zq (ab bu t0.handlers e29 q q Zl) q (Rlc 3 q (Ci h q (λh=>?_) (λh=>?_))))))
 exact Rcx 7 q (FA h)
 refine Rcc 2 q (Jn0 [] [] h (λm h=>?_) (λh=>?_))
 refine Rcc 6 q (Ln1 (λa=> [(1, .d (.pc (R38 t0))),(3, .n a)]) (λ_=> []) (f93_l1 t0 m) h (λ_ h=>by rw[f93_l1] at h;cases h) (λn a h=>?_))
 rw[f93_l1] at h
 refine Rcl 6 q (Zq (ab bu t0.handlers e29 q q Zl) q (Rlc 3 q (Ci h q (λh=>?_) (λh=>?_))))
 refine Rcc 2 q (Jn4 (λ_ _ _ _=> [(1, .d (.pc (R38 t0))),(3, .n a)]) (λf g j k=> [.row 108 [.n f, .n g, .n j, .d (D.b k)]]) h (λp h=>?_) (λf g j k h=>?_))
 refine Rcl 6 q (Ix h e29 eg q Zl q q λc _ h=>(Rl 1 q (Al l9 q (sS Z6 pr Z2 (Rll 9 q ?_)))))
 refine Og 6 28 34 (λ_=>Rn 6 6) (Rn 6 6) ?_
 refine Rl 1 q ?_
 apply WL.or 7 (t:=35) (d:=42)
 exact q
 intro w
 exact Rl 4 q (Zy (ab E45 t0.insns e23 q q Zl) q q q (Rl 2 q (WL.nil ⟨q,[_,_,_,_,_,_,_],q,q,q⟩)))
 exact Rn 7 7
 refine Rl 1 q ?_
 apply WL.or 6 (t:=43) (d:=49)
 exact q
 intro x
 exact Rl 3 q (WL.fn q q q q (f30_c _ _) Lw (aX q q q) q q (Rl 2 q (WL.nil ⟨q,[_,_,_,_,_,_],q,q,q⟩)))
 exact Rn 6 6
 refine Rl 1 q ?_
 apply WL.or 13 (t:=50) (d:=63)
 exact q
 intro y
 refine Rl 6 q ?_
 refine Ag 6 56 62 (λ_=>Rn 6 6) (Rn 6 6) ?_
 exact Rn 1 8
 exact Rn 13 13
 refine Rlc 2 q (Ci h q (λh=>?_) (λh=>?_))
 exact Rcx 12 q (FA h)
 refine Rcc 8 q (Ln1 (λe=> [(1, .d (.pc (R38 t0))),(3, .n a),(4, .pt 0 0),(5, .n e)]) (λ_=> [.row 108 [.n c.from_, .n c.to, .n c.at_, .d (D.b c.clean)]]) (f93_l2 t0 a p c) h (λ_ h=>by rw[f93_l2] at h;cases h) (λna e h=>?_))
 rw[f93_l2] at h
 refine Rcc 8 q (Ci h q (λh=>?_) (λh=>?_))
 refine Rcl 9 q (Ix h e29 eg q Zl q q λA _ h=>(Rl 1 q (Al l9 q (sS Z6 pr Z2 (Rll 10 q ?_)))))
 refine Ag 6 79 85 (λ_=>Rn 6 6) (Rn 6 6) ?_
 refine Rll 11 q ?_
 refine Og 6 91 97 (λ_=>Rn 6 6) (Rn 6 6) ?_
 refine Rll 8 q ?_
 refine Ag 3 100 103 (λ_=>Rn 3 3) (Rn 3 3) ?_
 refine Rlc 2 q (Ci h q (λh=>?_) (λh=>?_))
 exact Rcx 15 q (FA h)
 exact Rcx 8 q (WE.drop 1 (env':=[(1, .d (.pc (R38 t0))),(3, .n a),(4, .pt 0 0),(5, .n (IntKind.i64.wrap (e+1)))]) Sb q q (Nat.zero_le _) (Fn1 h))
 exact Rcx 5 q (En4 h)
 exact Rcx 5 q (WE.drop 0 (env':=[(1, .d (.pc (R38 t0))),(3, .n (IntKind.i64.wrap (a+1)))]) Sb q q (Nat.zero_le _) (Fn1 h))
 exact Rcx 4 q (En0 h)
 exact Rcx 6 q (FA h)

theorem f94_c(t0:ai){r:Bool}(h:f94 t0=some r):Pu prog 94 [.ag (R38 t0)] (.b r):=by
 unfold f94 at h
 refine fI func94 λ_ _=>?_
 refine Rcl 2 q (Bd q q (Zs _) q (Rll 8 q (Zq (ab cg t0.loops e30 q q Zl) q (Rlc 3 q (Ci h q (λh=>?_) (λh=>?_))))))
 exact Rcx 7 q (FA h)
 refine Rcc 2 q (Jn0 [] [] h (λG h=>?_) (λh=>?_))
 refine Rcc 6 q (Ln1 (λe=> [(1, .d (.pc (R38 t0))),(3, .n e)]) (λ_=> []) (f94_l1 t0 G) h (λ_ h=>by rw[f94_l1] at h;cases h) (λn e h=>?_))
 rw[f94_l1] at h
 refine Rcl 6 q (Zq (ab cg t0.loops e30 q q Zl) q (Rlc 3 q (Ci h q (λh=>?_) (λh=>?_))))
 refine Rcc 2 q (Jn10 (λ_ _ _ _ _ _ _ _ _ _=> [(1, .d (.pc (R38 t0))),(3, .n e)]) (λg j k p w x y A B C=> [.row 189 [.n g, .n j, .n k], .row 45 [.d (D.i .u8 p), .n w, .n x, .n y, .n A, .n B, .n C]]) h (λH h=>?_) (λg j k p w x y A B C h=>?_))
 refine Rcl 6 q (Ix h e30 nC q Zl q q λf _ h=>(Rl 1 q (Al z189 q (sS Z6 s189 Z2 (Rll 8 q (wF Z4 (f30_c _ _) Lw Z3 (Rl 2 q ?_)))))))
 apply WL.or 6 (t:=28) (d:=34)
 exact q
 intro I
 exact Rl 3 q (WL.fn q q q q (f30_c _ _) Lw (aX q q q) q q (Rl 2 q (WL.nil ⟨q,[_,_,_,_,_,_],q,q,q⟩)))
 exact Rn 6 6
 refine Rl 1 q ?_
 refine Og 6 35 41 (λ_=>Rn 6 6) (Rn 6 6) ?_
 refine Rl 1 q ?_
 refine Og 4 42 46 (λ_=>Rn 4 4) (Rn 4 4) ?_
 refine Rl 1 q ?_
 refine Og 4 47 51 (λ_=>Rn 4 4) (Rn 4 4) ?_
 refine Rlc 2 q (Ci h q (λh=>?_) (λh=>?_))
 exact Rcx 12 q (FA h)
 refine Rcl 8 q (Ix h e23 dg q Zl q q λc _ h=>(Rl 1 q (Al z45 q (sS Z6 s45 Z2 (Rll 9 q ?_)))))
 refine Ag 4 61 65 (λ_=>Rn 4 4) (Rn 4 4) ?_
 refine Rl 1 q ?_
 refine Ag 4 66 70 (λ_=>Rn 4 4) (Rn 4 4) ?_
 refine Rl 1 q ?_
 refine Og 6 71 77 (λ_=>Rn 6 6) (Rn 6 6) ?_
 refine Rlc 2 q (Ci h q (λh=>?_) (λh=>?_))
 exact Rcx 12 q (FA h)
 refine Rcc 8 q (Ln1 (λE=> [(1, .d (.pc (R38 t0))),(3, .n e),(4, .pt 0 0),(6, .n E)]) (λ_=> [.row 189 [.n f.head, .n f.back, .n f.bound], .row 45 [.d (D.i .u8 c.op), .n c.d, .n c.a, .n c.b, .n c.n, .n c.m, .n c.to]]) (f94_l2 t0 e n H f c) h (λ_ h=>by rw[f94_l2] at h;cases h) (λna E h=>?_))
 rw[f94_l2] at h
 refine Rcc 8 q (Ci h q (λh=>?_) (λh=>?_))
 refine Rcc 5 q (an kR kR (Rq 3 q ?_))
 obtain⟨J,F,h⟩:=ac h
 refine WQ.qn (ah e30 q Zl q (af F) (av nC F) q) q (Rq 5 q (WQ.nil (Rxc 1 q (Ci h q (λh=>?_) (λh=>?_)))))
 exact Rcx 15 q (FA h)
 exact Rcx 8 q (Fn1 h)
 exact Rcx 5 q (cQ ⟨_,_,_,_,_,_,_,_,_,_,h,Sb,Tv⟩)
 exact Rcx 5 q (WE.drop 0 (env':=[(1, .d (.pc (R38 t0))),(3, .n (IntKind.i64.wrap (e+1)))]) Sb q q (Nat.zero_le _) (Fn1 h))
 exact Rcx 4 q (En0 h)
 exact Rcx 6 q (FA h)

theorem f201_c:Pu prog 201 [] (.sl (List.map uE (f201 ))):=by
 generalize h:f201=r
 unfold f201 at h
 refine fI func201 λ_ _=>?_
 refine Rcl 7 q (Zq (aa aL au q q) q (Zq (aa aL au q q) q (WL.s ((NewOs.b (ae cm au q dC dC q q q dC)).does) (Zw q) q q ?_)))
 refine WL.freezeX [3] [] 0 _ q (am aH [(Field.mk 68 0 15),(Field.mk 78 (-9223372036854775808) 9223372036854775807)]) ⟨q,Zt⟩ Zt (Zq (aa bW bQ q q) q (Zq (aa aL au q q) q (Zq (aa aL au q q) q (WL.s ((NewOs.b (ae cm au q dC dC q q q dC)).does) (Zw q) q q ?_))))
 refine WL.freezeX [7] [] 1 _ q (am aH [(Field.mk 68 0 15),(Field.mk 65 0 15)]) ⟨q,Zt⟩ Zt (Zq (aa bW bQ q q) q (Zq (aa aL au q q) q (Zq (aa aL au q q) q (Zq (aa aL au q q) q (WL.s ((NewOs.b (ae cm au q dC dC q q q dC)).does) (Zw q) q q ?_)))))
 refine WL.freezeX [12] [] 2 _ q (am aH [(Field.mk 68 0 15),(Field.mk 78 0 4095),(Field.mk 77 0 65535)]) ⟨q,Zt⟩ Zt (Zq (aa bW bQ q q) q (Zq (aa aL au q q) q (Zq (aa aL au q q) q (Zq (aa aL au q q) q (WL.s ((NewOs.b (ae cm au q dC dC q q q dC)).does) (Zw q) q q ?_)))))
 refine WL.freezeX [17] [] 3 _ q (am aH [(Field.mk 65 0 15),(Field.mk 78 0 4095),(Field.mk 77 0 65535)]) ⟨q,Zt⟩ Zt (Zq (aa bW bQ q q) q (Zq (aa aL au q q) q (Zq (aa aL au q q) q (Zq (aa aL au q q) q (Zq (aa aL au q q) q (Zq (aa aL au q q) q (WL.s ((NewOs.b (ae cm au q dC dC q q q dC)).does) (Zw q) q q ?_)))))))
 refine WL.freezeX [24] [] 4 _ q (am aH [(Field.mk 68 0 15),(Field.mk 65 0 15),(Field.mk 66 1 65536),(Field.mk 78 0 4095),(Field.mk 77 0 65535)]) ⟨q,Zt⟩ Zt (Zq (aa bW bQ q q) q (Zq (aa aL au q q) q (Zq (aa aL au q q) q (Zq (aa aL au q q) q (Zq (aa aL au q q) q (Zq (aa aL au q q) q (WL.s ((NewOs.b (ae cm au q dC dC q q q dC)).does) (Zw q) q q ?_)))))))
 refine WL.freezeX [31] [] 5 _ q (am aH [(Field.mk 68 0 15),(Field.mk 65 0 15),(Field.mk 66 1 65536),(Field.mk 78 0 4095),(Field.mk 77 0 65535)]) ⟨q,Zt⟩ Zt (Zq (aa bW bQ q q) q (Zq (aa aL au q q) q (Zq (aa aL au q q) q (WL.s ((NewOs.b (ae cm au q dC dC q q q dC)).does) (Zw q) q q ?_))))
 refine WL.freezeX [35] [] 6 _ q (am aH [(Field.mk 68 0 15),(Field.mk 65 0 15)]) ⟨q,Zt⟩ Zt (Zq (aa bW bQ q q) q (Zq (aa aL au q q) q (Zq (aa aL au q q) q (WL.s ((NewOs.b (ae cm au q dC dC q q q dC)).does) (Zw q) q q ?_))))
 refine WL.freezeX [39] [] 7 _ q (am aH [(Field.mk 68 0 15),(Field.mk 65 0 15)]) ⟨q,Zt⟩ Zt (Zq (aa bW bQ q q) q (Zq (aa aL au q q) q (Zq (aa aL au q q) q (Zq (aa aL au q q) q (WL.s ((NewOs.b (ae cm au q dC dC q q q dC)).does) (Zw q) q q ?_)))))
 refine WL.freezeX [44] [] 8 _ q (am aH [(Field.mk 68 0 15),(Field.mk 65 0 15),(Field.mk 66 0 15)]) ⟨q,Zt⟩ Zt (Zq (aa bW bQ q q) q (Zq (aa aL au q q) q (Zq (aa aL au q q) q (Zq (aa aL au q q) q (WL.s ((NewOs.b (ae cm au q dC dC q q q dC)).does) (Zw q) q q ?_)))))
 refine WL.freezeX [49] [] 9 _ q (am aH [(Field.mk 68 0 15),(Field.mk 65 0 15),(Field.mk 66 0 15)]) ⟨q,Zt⟩ Zt (Zq (aa bW bQ q q) q (Zq (aa aL au q q) q (Zq (aa aL au q q) q (Zq (aa aL au q q) q (WL.s ((NewOs.b (ae cm au q dC dC q q q dC)).does) (Zw q) q q ?_)))))
 refine WL.freezeX [54] [] 10 _ q (am aH [(Field.mk 68 0 15),(Field.mk 65 0 15),(Field.mk 66 0 15)]) ⟨q,Zt⟩ Zt (Zq (aa bW bQ q q) q (Zq (aa aL au q q) q (Zq (aa aL au q q) q (Zq (aa aL au q q) q (WL.s ((NewOs.b (ae cm au q dC dC q q q dC)).does) (Zw q) q q ?_)))))
 refine WL.freezeX [59] [] 11 _ q (am aH [(Field.mk 68 0 15),(Field.mk 65 0 15),(Field.mk 66 0 15)]) ⟨q,Zt⟩ Zt (Zq (aa bW bQ q q) q (Zq (aa aL au q q) q (Zq (aa aL au q q) q (Zq (aa aL au q q) q (WL.s ((NewOs.b (ae cm au q dC dC q q q dC)).does) (Zw q) q q ?_)))))
 refine WL.freezeX [64] [] 12 _ q (am aH [(Field.mk 68 0 15),(Field.mk 65 0 15),(Field.mk 66 0 15)]) ⟨q,Zt⟩ Zt (Zq (aa bW bQ q q) q (Zq (aa aL au q q) q (Zq (aa aL au q q) q (Zq (aa aL au q q) q (WL.s ((NewOs.b (ae cm au q dC dC q q q dC)).does) (Zw q) q q ?_)))))
 refine WL.freezeX [69] [] 13 _ q (am aH [(Field.mk 68 0 15),(Field.mk 65 0 15),(Field.mk 66 0 15)]) ⟨q,Zt⟩ Zt (Zq (aa bW bQ q q) q (Zq (aa aL au q q) q (Zq (aa aL au q q) q (Zq (aa aL au q q) q (WL.s ((NewOs.b (ae cm au q dC dC q q q dC)).does) (Zw q) q q ?_)))))
 refine WL.freezeX [74] [] 14 _ q (am aH [(Field.mk 68 0 15),(Field.mk 65 0 15),(Field.mk 66 0 15)]) ⟨q,Zt⟩ Zt (Zq (aa bW bQ q q) q (Zq (aa aL au q q) q (Zq (aa aL au q q) q (Zq (aa aL au q q) q (WL.s ((NewOs.b (ae cm au q dC dC q q q dC)).does) (Zw q) q q ?_)))))
 refine WL.freezeX [79] [] 15 _ q (am aH [(Field.mk 68 0 15),(Field.mk 65 0 15),(Field.mk 66 0 15)]) ⟨q,Zt⟩ Zt (Zq (aa bW bQ q q) q (Zq (aa aL au q q) q (Zq (aa aL au q q) q (Zq (aa aL au q q) q (WL.s ((NewOs.b (ae cm au q dC dC q q q dC)).does) (Zw q) q q ?_)))))
 refine WL.freezeX [84] [] 16 _ q (am aH [(Field.mk 68 0 15),(Field.mk 65 0 15),(Field.mk 66 0 15)]) ⟨q,Zt⟩ Zt (Zq (aa bW bQ q q) q (Zq (aa aL au q q) q (Zq (aa aL au q q) q (Zq (aa aL au q q) q (WL.s ((NewOs.b (ae cm au q dC dC q q q dC)).does) (Zw q) q q ?_)))))
 refine WL.freezeX [89] [] 17 _ q (am aH [(Field.mk 68 0 15),(Field.mk 65 0 15),(Field.mk 66 0 15)]) ⟨q,Zt⟩ Zt (Zq (aa bW bQ q q) q (Zq (aa aL au q q) q (Zq (aa aL au q q) q (Zq (aa aL au q q) q (WL.s ((NewOs.b (ae cm au q dC dC q q q dC)).does) (Zw q) q q ?_)))))
 refine WL.freezeX [94] [] 18 _ q (am aH [(Field.mk 68 0 15),(Field.mk 65 0 15),(Field.mk 66 0 15)]) ⟨q,Zt⟩ Zt (Zq (aa bW bQ q q) q (Zq (aa aL au q q) q (Zq (aa aL au q q) q (Zq (aa aL au q q) q (WL.s ((NewOs.b (ae cm au q dC dC q q q dC)).does) (Zw q) q q ?_)))))
 refine WL.freezeX [99] [] 19 _ q (am aH [(Field.mk 68 0 15),(Field.mk 65 0 15),(Field.mk 66 0 15)]) ⟨q,Zt⟩ Zt (Zq (aa bW bQ q q) q (Zq (aa aL au q q) q (Zq (aa aL au q q) q (Zq (aa aL au q q) q (WL.s ((NewOs.b (ae cm au q dC dC q q q dC)).does) (Zw q) q q ?_)))))
 refine WL.freezeX [104] [] 20 _ q (am aH [(Field.mk 68 0 15),(Field.mk 65 0 15),(Field.mk 66 0 15)]) ⟨q,Zt⟩ Zt (Zq (aa bW bQ q q) q (Zq (aa aL au q q) q (Zq (aa aL au q q) q (Zq (aa aL au q q) q (WL.s ((NewOs.b (ae cm au q dC dC q q q dC)).does) (Zw q) q q ?_)))))
 refine WL.freezeX [109] [] 21 _ q (am aH [(Field.mk 68 0 15),(Field.mk 65 0 15),(Field.mk 66 0 15)]) ⟨q,Zt⟩ Zt (Zq (aa bW bQ q q) q (Zq (aa aL au q q) q (Zq (aa aL au q q) q (Zq (aa aL au q q) q (WL.s ((NewOs.b (ae cm au q dC dC q q q dC)).does) (Zw q) q q ?_)))))
 refine WL.freezeX [114] [] 22 _ q (am aH [(Field.mk 68 0 15),(Field.mk 65 0 15),(Field.mk 66 0 15)]) ⟨q,Zt⟩ Zt (Zq (aa bW bQ q q) q (Zq (aa aL au q q) q (Zq (aa aL au q q) q (WL.s ((NewOs.b (ae cm au q dC dC q q q dC)).does) (Zw q) q q ?_))))
 refine WL.freezeX [118] [] 23 _ q (am aH [(Field.mk 68 0 15),(Field.mk 65 0 15)]) ⟨q,Zt⟩ Zt (Zq (aa bW bQ q q) q (Zq (aa aL au q q) q (Zq (aa aL au q q) q (WL.s ((NewOs.b (ae cm au q dC dC q q q dC)).does) (Zw q) q q ?_))))
 refine WL.freezeX [122] [] 24 _ q (am aH [(Field.mk 68 0 15),(Field.mk 65 0 15)]) ⟨q,Zt⟩ Zt (Zq (aa bW bQ q q) q (Zq (aa aL au q q) q (Zq (aa aL au q q) q (WL.s ((NewOs.b (ae cm au q dC dC q q q dC)).does) (Zw q) q q ?_))))
 refine WL.freezeX [126] [] 25 _ q (am aH [(Field.mk 68 0 15),(Field.mk 65 0 15)]) ⟨q,Zt⟩ Zt (Zq (aa bW bQ q q) q (Zq (aa aL au q q) q (Zq (aa aL au q q) q (Zq (aa aL au q q) q (WL.s ((NewOs.b (ae cm au q dC dC q q q dC)).does) (Zw q) q q ?_)))))
 refine WL.freezeX [131] [] 26 _ q (am aH [(Field.mk 65 0 15),(Field.mk 78 (-9223372036854775808) 9223372036854775807),(Field.mk 77 (-9223372036854775808) 9223372036854775807)]) ⟨q,Zt⟩ Zt (Zq (aa bW bQ q q) q (Zq (aa aL au q q) q (WL.s ((NewOs.b (ae cm au q dC dC q q q dC)).does) (Zw q) q q ?_)))
 refine WL.freezeX [134] [] 27 _ q (am aH [(Field.mk 65 0 15)]) ⟨q,Zt⟩ Zt (Zq (aa bW bQ q q) q (Zq (aa aL au q q) q (WL.s ((NewOs.b (ae cm au q dC dC q q q dC)).does) (Zw q) q q ?_)))
 refine WL.freezeX [137] [] 28 _ q (am aH [(Field.mk 84 0 65535)]) ⟨q,Zt⟩ Zt (Zq (aa bW bQ q q) q (Zq (aa aL au q q) q (Zq (aa aL au q q) q (WL.s ((NewOs.b (ae cm au q dC dC q q q dC)).does) (Zw q) q q ?_))))
 refine WL.freezeX [141] [] 29 _ q (am aH [(Field.mk 65 0 15),(Field.mk 84 0 65535)]) ⟨q,Zt⟩ Zt (Zq (aa bW bQ q q) q (Zq (aa aL au q q) q (Zq (aa aL au q q) q (WL.s ((NewOs.b (ae cm au q dC dC q q q dC)).does) (Zw q) q q ?_))))
 refine WL.freezeX [145] [] 30 _ q (am aH [(Field.mk 65 0 15),(Field.mk 84 0 65535)]) ⟨q,Zt⟩ Zt (Zq (aa bW bQ q q) q (Zq (aa aL au q q) q (Zq (aa aL au q q) q (Zq (aa aL au q q) q (Zq (aa aL au q q) q (WL.s ((NewOs.b (ae cm au q dC dC q q q dC)).does) (Zw q) q q ?_))))))
 refine WL.freezeX [151] [] 31 _ q (am aH [(Field.mk 65 0 15),(Field.mk 78 (-9223372036854775808) 9223372036854775807),(Field.mk 77 1 65536),(Field.mk 84 0 65535)]) ⟨q,Zt⟩ Zt (Zq (aa bW bQ q q) q (Zq (aa aL au q q) q (WL.s ((NewOs.b (ae cm au q dC dC q q q dC)).does) (Zw q) q q ?_)))
 refine WL.freezeX [154] [] 32 _ q (am aH [(Field.mk 78 1 64)]) ⟨q,Zt⟩ Zt (Zq (aa bW bQ q q) q (Zq (aa aL au q q) q (WL.s ((NewOs.b (ae cm au q dC dC q q q dC)).does) (Zw q) q q ?_)))
 refine WL.freezeX [157] [] 33 _ q (am aH [(Field.mk 65 0 15)]) ⟨q,Zt⟩ Zt (Zq (aa bW bQ q q) q (Zq (aa aL au q q) q (WL.s ((NewOs.b (ae cm au q dC dC q q q dC)).does) (Zw q) q q ?_)))
 refine WL.freezeX [160] [] 34 _ q (am aH [(Field.mk 65 0 15)]) ⟨q,Zt⟩ Zt (Zq (aa bW bQ q q) q (Zq (aa aL au q q) q (WL.s ((NewOs.b (ae cm au q dC dC q q q dC)).does) (Zw q) q q ?_)))
 refine WL.freezeX [163] [] 35 _ q (am aH [(Field.mk 68 0 15)]) ⟨q,Zt⟩ Zt (Zq (aa bW bQ q q) q (Zq (aa aL au q q) q (Zq (aa aL au q q) q (WL.s ((NewOs.b (ae cm au q dC dC q q q dC)).does) (Zw q) q q ?_))))
 refine WL.freezeX [167] [] 36 _ q (am aH [(Field.mk 78 6 7),(Field.mk 77 0 65535)]) ⟨q,Zt⟩ Zt (Zq (aa bW bQ q q) q (Zq (aa aL au q q) q (WL.s ((NewOs.b (ae cm au q dC dC q q q dC)).does) (Zw q) q q ?_)))
 refine WL.freezeX [170] [] 37 _ q (am aH [(Field.mk 68 0 15)]) ⟨q,Zt⟩ Zt (Zq (aa bW bQ q q) q (Zq (aa aL au q q) q (WL.s ((NewOs.b (ae cm au q dC dC q q q dC)).does) (Zw q) q q ?_)))
 refine WL.freezeX [173] [] 38 _ q (am aH [(Field.mk 65 0 15)]) ⟨q,Zt⟩ Zt (Zq (aa bW bQ q q) q (Zq (aa bW bQ q q) q (Zq (aa bW bQ q q) q (Zq (aa aL au q q) q (WL.s ((NewOs.b (ae cm au q dC dC q q q dC)).does) (Zw q) q q ?_)))))
 refine WL.freezeX [178] [] 39 _ q (am aH [(Field.mk 68 0 15)]) ⟨q,Zt⟩ Zt (Zq (aa bW bQ q q) q (Zq (aa aL au q q) q (Zq (aa aL au q q) q (Zq (aa aL au q q) q (WL.s ((NewOs.b (ae cm au q dC dC q q q dC)).does) (Zw q) q q ?_)))))
 refine WL.freezeX [183] [] 40 _ q (am aH [(Field.mk 68 0 15),(Field.mk 78 0 7),(Field.mk 77 (-1) 31)]) ⟨q,Zt⟩ Zt (Zq (aa bW bQ q q) q (Zq (aa aL au q q) q (WL.s ((NewOs.b (ae cm au q dC dC q q q dC)).does) (Zw q) q q ?_)))
 refine WL.freezeX [186] [] 41 _ q (am aH [(Field.mk 78 0 65535)]) ⟨q,Zt⟩ Zt (Zq (aa bW bQ q q) q (Zq (aa aL au q q) q (WL.s ((NewOs.b (ae cm au q dC dC q q q dC)).does) (Zw q) q q ?_)))
 refine WL.freezeX [189] [] 42 _ q (am aH [(Field.mk 78 0 65535)]) ⟨q,Zt⟩ Zt (Zq (aa bW bQ q q) q (Zq (aa aL au q q) q (Zq (aa aL au q q) q (WL.s ((NewOs.b (ae cm au q dC dC q q q dC)).does) (Zw q) q q ?_))))
 refine WL.freezeX [193] [] 43 _ q (am aH [(Field.mk 65 0 15),(Field.mk 78 0 65535)]) ⟨q,Zt⟩ Zt (Zq (aa bW bQ q q) q (Zq (aa aL au q q) q (WL.s ((NewOs.b (ae cm au q dC dC q q q dC)).does) (Zw q) q q ?_)))
 refine WL.freezeX [196] [] 44 _ q (am aH [(Field.mk 65 0 15)]) ⟨q,Zt⟩ Zt (Zq (aa bW bQ q q) q (Zq (aa aL au q q) q (WL.s ((NewOs.b (ae cm au q dC dC q q q dC)).does) (Zw q) q q ?_)))
 refine WL.freezeX [199] [] 45 _ q (am aH [(Field.mk 65 0 15)]) ⟨q,Zt⟩ Zt (Zq (aa bW bQ q q) q (Zq (aa aL au q q) q (Zq (aa aL au q q) q (Zq (aa aL au q q) q (Zq (aa aL au q q) q (Zq (aa aL au q q) q (WL.s ((NewOs.b (ae cm au q dC dC q q q dC)).does) (Zw q) q q ?_)))))))
 refine WL.freezeX [206] [] 46 _ q (am aH [(Field.mk 68 0 15),(Field.mk 65 0 31),(Field.mk 66 0 7),(Field.mk 78 0 4095),(Field.mk 77 0 3)]) ⟨q,Zt⟩ Zt (Zq (aa bW bQ q q) q (Zq (aa aL au q q) q (WL.s ((NewOs.b (ae cm au q dC dC q q q dC)).does) (Zw q) q q ?_)))
 refine WL.freezeX [209] [] 47 _ q (am aH [(Field.mk 78 0 1023)]) ⟨q,Zt⟩ Zt (Zq (aa bW bQ q q) q (Zq (aa aL au q q) q (WL.s ((NewOs.b (ae cm au q dC dC q q q dC)).does) (Zw q) q q ?_)))
 refine WL.freezeX [212] [] 48 _ q (am aH [(Field.mk 78 0 1)]) ⟨q,Zt⟩ Zt (Zq (aa bW bQ q q) q (Zq (aa aL au q q) q (Zq (aa aL au q q) q (Zq (aa aL au q q) q (Zq (aa aL au q q) q (WL.s ((NewOs.b (ae cm au q dC dC q q q dC)).does) (Zw q) q q ?_))))))
 refine WL.freezeX [218] [] 49 _ q (am aH [(Field.mk 65 0 31),(Field.mk 66 0 7),(Field.mk 78 0 1),(Field.mk 84 0 65535)]) ⟨q,Zt⟩ Zt (Zq (aa bW bQ q q) q (Zq (aa aL au q q) q (WL.s ((NewOs.b (ae cm au q dC dC q q q dC)).does) (Zw q) q q ?_)))
 refine WL.freezeX [221] [] 50 _ q (am aH [(Field.mk 78 0 31)]) ⟨q,Zt⟩ Zt (Zq (aa bW bQ q q) q (Zq (aa aL au q q) q (Zq (aa aL au q q) q (Zq (aa aL au q q) q (Zq (aa aL au q q) q (Zq (aa aL au q q) q (WL.s ((NewOs.b (ae cm au q dC dC q q q dC)).does) (Zw q) q q ?_)))))))
 refine WL.freezeX [228] [] 51 _ q (am aH [(Field.mk 68 0 15),(Field.mk 65 0 15),(Field.mk 66 0 3),(Field.mk 78 0 31),(Field.mk 77 0 7)]) ⟨q,Zt⟩ Zt (Zq (aa bW bQ q q) q (Zq (aa aL au q q) q (WL.s ((NewOs.b (ae cm au q dC dC q q q dC)).does) (Zw q) q q ?_)))
 refine WL.freezeX [231] [] 52 _ q (am aH [(Field.mk 78 0 31)]) ⟨q,Zt⟩ Zt (Zq (aa bW bQ q q) q (Zq (aa aL au q q) q (WL.s ((NewOs.b (ae cm au q dC dC q q q dC)).does) (Zw q) q q ?_)))
 refine WL.freezeX [234] [] 53 _ q (am aH [(Field.mk 78 0 65535)]) ⟨q,Zt⟩ Zt (Zq (aa bW bQ q q) q (Zq (aa bW bQ q q) q ?_))
 refine WL.s ((NewOs.b (NewOs.weak (es':=List.map (ba uC) [(Row.mk 1 (ByteArray.mk #[108,105]) [(Field.mk 68 0 15),(Field.mk 78 (-9223372036854775808) 9223372036854775807)]),(Row.mk 2 (ByteArray.mk #[109,118]) [(Field.mk 68 0 15),(Field.mk 65 0 15)]),(Row.mk 3 (ByteArray.mk #[108,100]) [(Field.mk 68 0 15),(Field.mk 78 0 4095),(Field.mk 77 0 65535)]),(Row.mk 4 (ByteArray.mk #[115,116]) [(Field.mk 65 0 15),(Field.mk 78 0 4095),(Field.mk 77 0 65535)]),(Row.mk 5 (ByteArray.mk #[108,100,120]) [(Field.mk 68 0 15),(Field.mk 65 0 15),(Field.mk 66 1 65536),(Field.mk 78 0 4095),(Field.mk 77 0 65535)]),(Row.mk 6 (ByteArray.mk #[115,116,120]) [(Field.mk 68 0 15),(Field.mk 65 0 15),(Field.mk 66 1 65536),(Field.mk 78 0 4095),(Field.mk 77 0 65535)]),(Row.mk 7 (ByteArray.mk #[108,100,97]) [(Field.mk 68 0 15),(Field.mk 65 0 15)]),(Row.mk 8 (ByteArray.mk #[115,116,97]) [(Field.mk 68 0 15),(Field.mk 65 0 15)]),(Row.mk 9 (ByteArray.mk #[97,100,100]) [(Field.mk 68 0 15),(Field.mk 65 0 15),(Field.mk 66 0 15)]),(Row.mk 10 (ByteArray.mk #[115,117,98]) [(Field.mk 68 0 15),(Field.mk 65 0 15),(Field.mk 66 0 15)]),(Row.mk 11 (ByteArray.mk #[109,117,108]) [(Field.mk 68 0 15),(Field.mk 65 0 15),(Field.mk 66 0 15)]),(Row.mk 12 (ByteArray.mk #[100,105,118]) [(Field.mk 68 0 15),(Field.mk 65 0 15),(Field.mk 66 0 15)]),(Row.mk 13 (ByteArray.mk #[114,101,109]) [(Field.mk 68 0 15),(Field.mk 65 0 15),(Field.mk 66 0 15)]),(Row.mk 14 (ByteArray.mk #[109,111,100]) [(Field.mk 68 0 15),(Field.mk 65 0 15),(Field.mk 66 0 15)]),(Row.mk 15 (ByteArray.mk #[101,113]) [(Field.mk 68 0 15),(Field.mk 65 0 15),(Field.mk 66 0 15)]),(Row.mk 16 (ByteArray.mk #[110,101]) [(Field.mk 68 0 15),(Field.mk 65 0 15),(Field.mk 66 0 15)]),(Row.mk 17 (ByteArray.mk #[108,116]) [(Field.mk 68 0 15),(Field.mk 65 0 15),(Field.mk 66 0 15)]),(Row.mk 18 (ByteArray.mk #[108,101]) [(Field.mk 68 0 15),(Field.mk 65 0 15),(Field.mk 66 0 15)]),(Row.mk 19 (ByteArray.mk #[103,116]) [(Field.mk 68 0 15),(Field.mk 65 0 15),(Field.mk 66 0 15)]),(Row.mk 20 (ByteArray.mk #[103,101]) [(Field.mk 68 0 15),(Field.mk 65 0 15),(Field.mk 66 0 15)]),(Row.mk 21 (ByteArray.mk #[97,110,100]) [(Field.mk 68 0 15),(Field.mk 65 0 15),(Field.mk 66 0 15)]),(Row.mk 22 (ByteArray.mk #[111,114]) [(Field.mk 68 0 15),(Field.mk 65 0 15),(Field.mk 66 0 15)]),(Row.mk 23 (ByteArray.mk #[120,111,114]) [(Field.mk 68 0 15),(Field.mk 65 0 15),(Field.mk 66 0 15)]),(Row.mk 24 (ByteArray.mk #[110,101,103]) [(Field.mk 68 0 15),(Field.mk 65 0 15)]),(Row.mk 25 (ByteArray.mk #[97,98,115]) [(Field.mk 68 0 15),(Field.mk 65 0 15)]),(Row.mk 26 (ByteArray.mk #[110,111,116]) [(Field.mk 68 0 15),(Field.mk 65 0 15)]),(Row.mk 27 (ByteArray.mk #[99,104,107]) [(Field.mk 65 0 15),(Field.mk 78 (-9223372036854775808) 9223372036854775807),(Field.mk 77 (-9223372036854775808) 9223372036854775807)]),(Row.mk 28 (ByteArray.mk #[99,104,107,122]) [(Field.mk 65 0 15)]),(Row.mk 29 (ByteArray.mk #[106,109,112]) [(Field.mk 84 0 65535)]),(Row.mk 30 (ByteArray.mk #[106,122]) [(Field.mk 65 0 15),(Field.mk 84 0 65535)]),(Row.mk 31 (ByteArray.mk #[106,110,122]) [(Field.mk 65 0 15),(Field.mk 84 0 65535)]),(Row.mk 32 (ByteArray.mk #[106,116]) [(Field.mk 65 0 15),(Field.mk 78 (-9223372036854775808) 9223372036854775807),(Field.mk 77 1 65536),(Field.mk 84 0 65535)]),(Row.mk 33 (ByteArray.mk #[114,97,105,115,101]) [(Field.mk 78 1 64)]),(Row.mk 34 (ByteArray.mk #[114,97,105,115,101,114]) [(Field.mk 65 0 15)]),(Row.mk 35 (ByteArray.mk #[99,111,110,116]) [(Field.mk 65 0 15)]),(Row.mk 36 (ByteArray.mk #[101,120,99]) [(Field.mk 68 0 15)]),(Row.mk 37 (ByteArray.mk #[109,97,114,107]) [(Field.mk 78 6 7),(Field.mk 77 0 65535)]),(Row.mk 38 (ByteArray.mk #[103,101,116]) [(Field.mk 68 0 15)]),(Row.mk 39 (ByteArray.mk #[112,117,116]) [(Field.mk 65 0 15)]),(Row.mk 40 (ByteArray.mk #[100,101,102,101,114]) []),(Row.mk 41 (ByteArray.mk #[97,108,108,111,119]) []),(Row.mk 42 (ByteArray.mk #[99,108,111,99,107]) [(Field.mk 68 0 15)]),(Row.mk 43 (ByteArray.mk #[99,111,117,110,116]) [(Field.mk 68 0 15),(Field.mk 78 0 7),(Field.mk 77 (-1) 31)]),(Row.mk 44 (ByteArray.mk #[115,116,97,114,116]) [(Field.mk 78 0 65535)]),(Row.mk 45 (ByteArray.mk #[110,101,118,101,114]) [(Field.mk 78 0 65535)]),(Row.mk 46 (ByteArray.mk #[97,119,97,105,116]) [(Field.mk 65 0 15),(Field.mk 78 0 65535)]),(Row.mk 47 (ByteArray.mk #[100,101,108,97,121]) [(Field.mk 65 0 15)]),(Row.mk 48 (ByteArray.mk #[117,110,116,105,108]) [(Field.mk 65 0 15)]),(Row.mk 49 (ByteArray.mk #[99,97,108,108]) [(Field.mk 68 0 15),(Field.mk 65 0 31),(Field.mk 66 0 7),(Field.mk 78 0 4095),(Field.mk 77 0 3)]),(Row.mk 50 (ByteArray.mk #[115,101,108]) [(Field.mk 78 0 1023)]),(Row.mk 51 (ByteArray.mk #[100,111,110,101]) [(Field.mk 78 0 1)]),(Row.mk 52 (ByteArray.mk #[114,101,113]) [(Field.mk 65 0 31),(Field.mk 66 0 7),(Field.mk 78 0 1),(Field.mk 84 0 65535)]),(Row.mk 53 (ByteArray.mk #[108,111,99,107]) [(Field.mk 78 0 31)]),(Row.mk 54 (ByteArray.mk #[112,101,110,116]) [(Field.mk 68 0 15),(Field.mk 65 0 15),(Field.mk 66 0 3),(Field.mk 78 0 31),(Field.mk 77 0 7)]),(Row.mk 55 (ByteArray.mk #[117,110,108,111,99,107]) [(Field.mk 78 0 31)]),(Row.mk 56 (ByteArray.mk #[97,98,111,114,116]) [(Field.mk 78 0 65535)]),(Row.mk 57 (ByteArray.mk #[101,110,100]) [])]) (ae l270 bQ q dC dC q q q dC) (by exact⟨Lw,Lw,Lw,Lw,Lw,Lw,Lw,Lw,Lw,Lw,Lw,Lw,Lw,Lw,Lw,Lw,Lw,Lw,Lw,Lw,Lw,Lw,Lw,Lw,Lw,Lw,Lw,Lw,Lw,Lw,Lw,Lw,Lw,Lw,Lw,Lw,Lw,Lw,Lw,⟨Zl,Zl,Le.nil,Zt⟩,⟨Zl,Zl,Le.nil,Zt⟩,Lw,Lw,Lw,Lw,Lw,Lw,Lw,Lw,Lw,Lw,Lw,Lw,Lw,Lw,Lw,⟨Zl,Zl,Le.nil,Zt⟩,Zt⟩))).does) (Zw q) q q ?_
 refine Rlx 4 q ?_
 refine WE.freezeX [0,237] [] 54 _ q (am nA [(Row.mk 1 (ByteArray.mk #[108,105]) [(Field.mk 68 0 15),(Field.mk 78 (-9223372036854775808) 9223372036854775807)]),(Row.mk 2 (ByteArray.mk #[109,118]) [(Field.mk 68 0 15),(Field.mk 65 0 15)]),(Row.mk 3 (ByteArray.mk #[108,100]) [(Field.mk 68 0 15),(Field.mk 78 0 4095),(Field.mk 77 0 65535)]),(Row.mk 4 (ByteArray.mk #[115,116]) [(Field.mk 65 0 15),(Field.mk 78 0 4095),(Field.mk 77 0 65535)]),(Row.mk 5 (ByteArray.mk #[108,100,120]) [(Field.mk 68 0 15),(Field.mk 65 0 15),(Field.mk 66 1 65536),(Field.mk 78 0 4095),(Field.mk 77 0 65535)]),(Row.mk 6 (ByteArray.mk #[115,116,120]) [(Field.mk 68 0 15),(Field.mk 65 0 15),(Field.mk 66 1 65536),(Field.mk 78 0 4095),(Field.mk 77 0 65535)]),(Row.mk 7 (ByteArray.mk #[108,100,97]) [(Field.mk 68 0 15),(Field.mk 65 0 15)]),(Row.mk 8 (ByteArray.mk #[115,116,97]) [(Field.mk 68 0 15),(Field.mk 65 0 15)]),(Row.mk 9 (ByteArray.mk #[97,100,100]) [(Field.mk 68 0 15),(Field.mk 65 0 15),(Field.mk 66 0 15)]),(Row.mk 10 (ByteArray.mk #[115,117,98]) [(Field.mk 68 0 15),(Field.mk 65 0 15),(Field.mk 66 0 15)]),(Row.mk 11 (ByteArray.mk #[109,117,108]) [(Field.mk 68 0 15),(Field.mk 65 0 15),(Field.mk 66 0 15)]),(Row.mk 12 (ByteArray.mk #[100,105,118]) [(Field.mk 68 0 15),(Field.mk 65 0 15),(Field.mk 66 0 15)]),(Row.mk 13 (ByteArray.mk #[114,101,109]) [(Field.mk 68 0 15),(Field.mk 65 0 15),(Field.mk 66 0 15)]),(Row.mk 14 (ByteArray.mk #[109,111,100]) [(Field.mk 68 0 15),(Field.mk 65 0 15),(Field.mk 66 0 15)]),(Row.mk 15 (ByteArray.mk #[101,113]) [(Field.mk 68 0 15),(Field.mk 65 0 15),(Field.mk 66 0 15)]),(Row.mk 16 (ByteArray.mk #[110,101]) [(Field.mk 68 0 15),(Field.mk 65 0 15),(Field.mk 66 0 15)]),(Row.mk 17 (ByteArray.mk #[108,116]) [(Field.mk 68 0 15),(Field.mk 65 0 15),(Field.mk 66 0 15)]),(Row.mk 18 (ByteArray.mk #[108,101]) [(Field.mk 68 0 15),(Field.mk 65 0 15),(Field.mk 66 0 15)]),(Row.mk 19 (ByteArray.mk #[103,116]) [(Field.mk 68 0 15),(Field.mk 65 0 15),(Field.mk 66 0 15)]),(Row.mk 20 (ByteArray.mk #[103,101]) [(Field.mk 68 0 15),(Field.mk 65 0 15),(Field.mk 66 0 15)]),(Row.mk 21 (ByteArray.mk #[97,110,100]) [(Field.mk 68 0 15),(Field.mk 65 0 15),(Field.mk 66 0 15)]),(Row.mk 22 (ByteArray.mk #[111,114]) [(Field.mk 68 0 15),(Field.mk 65 0 15),(Field.mk 66 0 15)]),(Row.mk 23 (ByteArray.mk #[120,111,114]) [(Field.mk 68 0 15),(Field.mk 65 0 15),(Field.mk 66 0 15)]),(Row.mk 24 (ByteArray.mk #[110,101,103]) [(Field.mk 68 0 15),(Field.mk 65 0 15)]),(Row.mk 25 (ByteArray.mk #[97,98,115]) [(Field.mk 68 0 15),(Field.mk 65 0 15)]),(Row.mk 26 (ByteArray.mk #[110,111,116]) [(Field.mk 68 0 15),(Field.mk 65 0 15)]),(Row.mk 27 (ByteArray.mk #[99,104,107]) [(Field.mk 65 0 15),(Field.mk 78 (-9223372036854775808) 9223372036854775807),(Field.mk 77 (-9223372036854775808) 9223372036854775807)]),(Row.mk 28 (ByteArray.mk #[99,104,107,122]) [(Field.mk 65 0 15)]),(Row.mk 29 (ByteArray.mk #[106,109,112]) [(Field.mk 84 0 65535)]),(Row.mk 30 (ByteArray.mk #[106,122]) [(Field.mk 65 0 15),(Field.mk 84 0 65535)]),(Row.mk 31 (ByteArray.mk #[106,110,122]) [(Field.mk 65 0 15),(Field.mk 84 0 65535)]),(Row.mk 32 (ByteArray.mk #[106,116]) [(Field.mk 65 0 15),(Field.mk 78 (-9223372036854775808) 9223372036854775807),(Field.mk 77 1 65536),(Field.mk 84 0 65535)]),(Row.mk 33 (ByteArray.mk #[114,97,105,115,101]) [(Field.mk 78 1 64)]),(Row.mk 34 (ByteArray.mk #[114,97,105,115,101,114]) [(Field.mk 65 0 15)]),(Row.mk 35 (ByteArray.mk #[99,111,110,116]) [(Field.mk 65 0 15)]),(Row.mk 36 (ByteArray.mk #[101,120,99]) [(Field.mk 68 0 15)]),(Row.mk 37 (ByteArray.mk #[109,97,114,107]) [(Field.mk 78 6 7),(Field.mk 77 0 65535)]),(Row.mk 38 (ByteArray.mk #[103,101,116]) [(Field.mk 68 0 15)]),(Row.mk 39 (ByteArray.mk #[112,117,116]) [(Field.mk 65 0 15)]),(Row.mk 40 (ByteArray.mk #[100,101,102,101,114]) []),(Row.mk 41 (ByteArray.mk #[97,108,108,111,119]) []),(Row.mk 42 (ByteArray.mk #[99,108,111,99,107]) [(Field.mk 68 0 15)]),(Row.mk 43 (ByteArray.mk #[99,111,117,110,116]) [(Field.mk 68 0 15),(Field.mk 78 0 7),(Field.mk 77 (-1) 31)]),(Row.mk 44 (ByteArray.mk #[115,116,97,114,116]) [(Field.mk 78 0 65535)]),(Row.mk 45 (ByteArray.mk #[110,101,118,101,114]) [(Field.mk 78 0 65535)]),(Row.mk 46 (ByteArray.mk #[97,119,97,105,116]) [(Field.mk 65 0 15),(Field.mk 78 0 65535)]),(Row.mk 47 (ByteArray.mk #[100,101,108,97,121]) [(Field.mk 65 0 15)]),(Row.mk 48 (ByteArray.mk #[117,110,116,105,108]) [(Field.mk 65 0 15)]),(Row.mk 49 (ByteArray.mk #[99,97,108,108]) [(Field.mk 68 0 15),(Field.mk 65 0 31),(Field.mk 66 0 7),(Field.mk 78 0 4095),(Field.mk 77 0 3)]),(Row.mk 50 (ByteArray.mk #[115,101,108]) [(Field.mk 78 0 1023)]),(Row.mk 51 (ByteArray.mk #[100,111,110,101]) [(Field.mk 78 0 1)]),(Row.mk 52 (ByteArray.mk #[114,101,113]) [(Field.mk 65 0 31),(Field.mk 66 0 7),(Field.mk 78 0 1),(Field.mk 84 0 65535)]),(Row.mk 53 (ByteArray.mk #[108,111,99,107]) [(Field.mk 78 0 31)]),(Row.mk 54 (ByteArray.mk #[112,101,110,116]) [(Field.mk 68 0 15),(Field.mk 65 0 15),(Field.mk 66 0 3),(Field.mk 78 0 31),(Field.mk 77 0 7)]),(Row.mk 55 (ByteArray.mk #[117,110,108,111,99,107]) [(Field.mk 78 0 31)]),(Row.mk 56 (ByteArray.mk #[97,98,111,114,116]) [(Field.mk 78 0 65535)]),(Row.mk 57 (ByteArray.mk #[101,110,100]) [])]) ⟨q,q,Zt⟩ Zt ?_
 exact FB h

theorem f160_c(o0:Int){r:Row×Bool}(h:f160 o0=some r):Pu prog 160 [.i .u8 o0] (.tu [.ag (uC r.1), .b r.2]):=by
 unfold f160 at h
 refine fI func160 λ_ _=>?_
 refine Rcl 2 q (Al bQ q (Rll 5 q (WL.fn q q q q (f201_c) Zt (Zw q) q q (Rlc 3 q (Jn0 [(2, .pt 0 0)] [.row 241 [.d (D.i .u8 0), .d (D.s ByteArray.empty),sN]] h (λc h=>?_) (λh=>?_))))))
 refine Rcc 6 q (Ln1 (λa=> [(0, .d (D.i .u8 o0)),(2, .pt 0 0),(4, .l uE f201),(5, .n a)]) (λ_=> [.row 241 [.d (D.i .u8 0), .d (D.s ByteArray.empty),sN]]) (f160_l1 o0 c) h (λ_ h=>by rw[f160_l1] at h;cases h) (λn a h=>?_))
 rw[f160_l1] at h
 refine Rcl 5 q (Zq (ab uE f201 vR q q Zl) q (Rlc 3 q (Ci h q (λh=>?_) (λh=>?_))))
 refine Rcl 8 q (Ix h vR nA q Zl q q λe _ h=>(Rlc 6 q (Ci h q (λh=>?_) (λh=>?_))))
 refine Rcl 4 q (Ix h vR nA q Zl q q λf _ h=>(Rl 1 q (sS Z6 ss Z2 (Rlx 9 q ?_))))
 obtain rfl:=Oi h
 exact ao (rs2 q (bc q q a241 ss q) (ay q)) (aV ⟨(aj (Zs _)),Zl,Zt⟩)
 exact Rcx 8 q (Fn1 h)
 exact Rcx 4 q (En0 h)
 refine Rcl 2 q (Zq (aa bW bQ q q) q (sS Z6 ss Z2 (Rlx 4 q ?_)))
 obtain rfl:=Oi h
 exact ao (rs2 q (bc q q a241 ss q) (ay q)) (aV ⟨(aj ⟨Zl,Zl,Le.nil,Zt⟩),Zl,Zt⟩)

theorem f161_c(x0:ap)(f1:Int):Pu prog 161 [.ag (R45 x0), .i .u8 f1] (.i .i64 (f161 x0 f1)):=by
 generalize h:f161 x0 f1=r
 unfold f161 at h
 refine fI func161 λ_ _=>?_
 refine Rcl 2 q (Bd q q (Zs _) q (Rlc 16 q (Ci h q (λh=>?_) (λh=>?_))))
 exact Rcx 10 q (FB h)
 refine Rcc 6 q (Ci h q (λh=>?_) (λh=>?_))
 exact Rcx 10 q (FB h)
 refine Rcc 6 q (Ci h q (λh=>?_) (λh=>?_))
 exact Rcx 10 q (FB h)
 refine Rcc 6 q (Ci h q (λh=>?_) (λh=>?_))
 exact Rcx 10 q (FB h)
 refine Rcc 6 q (Ci h q (λh=>?_) (λh=>?_))
 exact Rcx 10 q (FB h)
 exact Rcx 11 q (FB h)

theorem f162_c(x0:ap)(f1:Int)(v2:Int):Pu prog 162 [.ag (R45 x0), .i .u8 f1, .i .i64 v2] (.ag (R45 (f162 x0 f1 v2))):=by
 generalize h:f162 x0 f1 v2=r
 unfold f162 at h
 refine fI func162 λ_ _=>?_
 refine Rcl 2 q (Bx q q q (Al z45 q (Rlc 2 q (Jn6 (λ_ _ _ _ _ _=> [(3, .pt 0 0),(6, .pt 1 0)]) (λa c e f g j=> [.row 45 [.d (D.i .u8 x0.op), .n a, .n c, .n e, .n f, .n g, .n j], .row 45 [.d (D.i .u8 0), .n 0, .n 0, .n 0, .n 0, .n 0, .n 0]]) h (λ_ h=>?_) (λa c e f g j h=>?_)))))
 refine Rcc 12 q (Ci h q (λh=>?_) (λh=>?_))
 exact Rcl 3 q (sS Z6 s3 Z2 (Rlx 2 q (En6 h)))
 refine Rcc 6 q (Ci h q (λh=>?_) (λh=>?_))
 exact Rcl 3 q (sS Z6 s3 Z2 (Rlx 2 q (En6 h)))
 refine Rcc 6 q (Ci h q (λh=>?_) (λh=>?_))
 exact Rcl 3 q (sS Z6 s3 Z2 (Rlx 2 q (En6 h)))
 refine Rcc 6 q (Ci h q (λh=>?_) (λh=>?_))
 exact Rcl 3 q (sS Z6 s2 Z2 (Rlx 2 q (En6 h)))
 refine Rcc 6 q (Ci h q (λh=>?_) (λh=>?_))
 exact Rcl 3 q (sS Z6 s2 Z2 (Rlx 2 q (En6 h)))
 exact Rcl 3 q (sS Z6 s3 Z2 (Rlx 2 q (En6 h)))
 refine Rcl 3 q (sS Z6 s45 Z2 (Rlx 3 q ?_))
 subst h
 exact ao (rs1 q (bc q q a45 s45 q)) (aj (Zs _))

theorem f139_c(x0:ap){r:Bool}(h:f139 x0=some r):Pu prog 139 [.ag (R45 x0)] (.b r):=by
 unfold f139 at h
 refine fI func139 λ_ _=>?_
 refine Rcl 2 q (Bd q q (Zs _) q (Rll 7 q ?_))
 obtain⟨a,F,h⟩:=ac h
 refine wF Z4 (f160_c _ F) Lw Z3 (Rl 3 q (Al bQ q (sS Z6 ss Z2 (Rlc 10 q (Ci h q (λh=>?_) (λh=>?_))))))
 exact Rcx 7 q (FA h)
 refine Rcl 5 q (Al z45 q (sS Z6 s45 Z2 (Rll 5 q (sS Z6 s43 Z2 (Rlc 2 q (Jn7 (λ_ _ _ _ _ _ _=> [(1, .d (.pc (R45 x0))),(5, .pt 1 0)]) (λc e f g j k m=> [.row 241 [.d (D.i .u8 a.1.op), .d (D.s a.1.name), .l tw a.1.fields], .row 45 [.d (D.i .u8 c), .n e, .n f, .n g, .n j, .n k, .n m]]) h (λG h=>?_) (λc e f g j k m h=>?_)))))))
 refine Rcc 6 q (Ln8 (λp _ _ _ _ _ _ _=> [(1, .d (.pc (R45 x0))),(3, .pt 0 0),(5, .pt 1 0),(6, .n p)]) (λ_ w x y A B C E=> [.row 241 [.d (D.i .u8 a.1.op), .d (D.s a.1.name), .l tw a.1.fields], .row 45 [.d (D.i .u8 w), .n x, .n y, .n A, .n B, .n C, .n E]]) (f139_l1 x0 a G) h (λ_ _ _ _ _ _ _ _ h=>by rw[f139_l1] at h;cases h) (λn p w x y A B C E h=>?_))
 rw[f139_l1] at h
 refine Rcl 6 q (Zq (ab tw a.1.fields e239 q q Zl) q (Rlc 3 q (Ci h q (λh=>?_) (λh=>?_))))
 refine Rcl 9 q (Ix h e239 aH q Zl q q λH _ h=>(Rl 1 q (Al au q (sS Z6 s245 Z2 (Rll 7 q (wF Z4 (f161_c _ _) Lw Z3 (Rll 11 q ?_)))))))
 refine Og 5 39 44 (λ_=>Rn 5 5) (Rn 5 5) ?_
 refine Rlc 2 q (Ci h q (λh=>?_) (λh=>?_))
 exact Rcx 12 q (FA h)
 exact Rcl 6 q (wF Z4 (f162_c (ap.mk w x y A B C E) _ _) ⟨(aj (Zs _)),Zl,Zl,Zt⟩ Z3 (sS Z6 s45 Z2 (Rlx 8 q (WE.drop 2 (env':=[(1, .d (.pc (R45 x0))),(3, .pt 0 0),(5, .pt 1 0),(6, .n (IntKind.i64.wrap (p+1)))]) Sb q q (Nat.zero_le _) (cQ ⟨_,⟨_,_,_,_,_,_,_,_,h,Sb,Tv⟩,Nat.lt_succ_self _⟩)))))
 exact Rcx 4 q (cQ ⟨_,_,_,_,_,_,_,h,Sb,Tv⟩)
 refine Rcl 3 q (Zq (aa p45 z45 q q) q (Zq (kK (xs:=[.int .u8 c, .int .i64 e, .int .i64 f, .int .i64 g, .int .i64 j, .int .i64 k, .int .i64 m]) (ys:=[.int .u8 0, .int .i64 0, .int .i64 0, .int .i64 0, .int .i64 0, .int .i64 0, .int .i64 0]) q45 q (aj (Zs _)) q (aj (Zs _)) q q q) q (Rl 1 q ?_)))
 apply WL.and 11 (t:=52) (d:=63)
 exact q
 intro I
 refine Rl 4 q ?_
 refine Og 6 56 62 (λ_=>Rn 6 6) (Rn 6 6) ?_
 exact Rn 1 6
 exact Rn 11 11
 refine Rl 1 q ?_
 apply WL.and 14 (t:=64) (d:=78)
 exact q
 intro J
 refine Rl 4 q ?_
 refine Og 4 68 72 (λ_=>Rn 4 4) (Rn 4 4) ?_
 refine Rl 1 q ?_
 refine Og 4 73 77 (λ_=>Rn 4 4) (Rn 4 4) ?_
 exact Rn 1 8
 exact Rn 14 14
 exact Rlx 4 q (FA h)

theorem f140_c(t0:ai)(a:Int)(c:Int){r:Bool}(h:f140 t0 a c=some r):Pu prog 140 [.ag (R38 t0), .i .i64 a, .i .i64 c] (.b r):=by
 unfold f140 at h
 refine fI func140 λ_ _=>?_
 refine Rcl 2 q (Bd q q (Zs _) q (Rll 11 q (Zq (ab E45 t0.insns e23 q q Zl) q (Rlc 3 q (Ci h q (λh=>?_) (λh=>?_))))))
 exact Rcx 7 q (FA h)
 refine Rcc 2 q (Jn0 [] [] h (λf h=>?_) (λh=>?_))
 refine Rcc 7 q (Ln1 (λe=> [(1, .n a),(2, .n c),(3, .d (.pc (R38 t0))),(7, .n e)]) (λ_=> []) (f140_l1 t0 a c f) h (λ_ h=>by rw[f140_l1] at h;cases h) (λn e h=>?_))
 rw[f140_l1] at h
 refine Rcc 10 q (Ci h q (λh=>?_) (λh=>?_))
 refine Rcl 9 q (Ix h e23 dg q Zl q q λg _ h=>(Rlc 5 q (Ci h q (λh=>?_) (λh=>?_))))
 exact Rcx 11 q (FA h)
 exact Rcx 8 q (Fn1 h)
 exact Rcx 4 q (En0 h)
 exact Rcx 6 q (FA h)

theorem f141_c(t0:ai)(a:Int)(n2:Int){r:cf×Bool}(h:f141 t0 a n2=some r):Pu prog 141 [.ag (R38 t0), .i .i64 a, .i .i64 n2] (.tu [.ag (ry r.1), .b r.2]):=by
 unfold f141 at h
 refine fI func141 λ_ _=>?_
 refine Rcl 2 q (Bd q q (Zs _) q (Al rC q (Rll 9 q ?_)))
 apply WL.or 6 (t:=10) (d:=16)
 exact q
 intro j
 exact Rl 3 q (Zy (ab E27 t0.tasks e28 q q Zl) q q q (Rl 2 q (WL.nil ⟨q,[_,_,_,_,_,_],q,q,q⟩)))
 exact Rn 6 6
 refine Rl 1 q ?_
 refine Og 3 17 20 (λ_=>Rn 3 3) (Rn 3 3) ?_
 refine Rl 1 q ?_
 obtain⟨e,f,h⟩:=ac h
 refine Gg 10 21 31 e f (λh=>?_) (λh=>?_) ?_
 refine Rl 10 q ?_
 obtain rfl:=Oi h
 exact Nn 10
 refine Rl 4 q ?_
 obtain⟨g,c,h⟩:=ac h
 refine Zy (ah e28 q Zl q (af c) (av iX c) q) q q q (Rl 2 q (Zy (ab iY g.entries e25 q q Zl) q q q (Rl 2 q ?_)))
 obtain rfl:=Oi h
 exact Nn 10
 refine Rlc 2 q (Ci h q (λh=>?_) (λh=>?_))
 refine Rcl 2 q (Zq (aa p173 rC q q) q (sS Z6 pq Z2 (Rlx 5 q ?_)))
 obtain rfl:=Oi h
 exact ao (rs2 q (bc q q a173 pq q) (ay q)) (aV ⟨(aj ⟨Le.nil,Le.nil,Zt⟩),Zl,Zt⟩)
 refine Rcl 7 q (Ix h e28 iX q Zl q q λk _ h=>(Rl 3 q (Ix h e25 jB q Zl q q λm _ h=>(Rl 1 q (sS Z6 pq Z2 (Rlx 4 q ?_))))))
 obtain rfl:=Oi h
 exact ao (rs2 q (bc q q a173 pq q) (ay q)) (aV ⟨(aj (Zs _)),Zl,Zt⟩)

theorem f142_c(t0:ai)(p1:Int)(n2:Int){r:Bool}(h:f142 t0 p1 n2=some r):Pu prog 142 [.ag (R38 t0), .i .i64 p1, .i .i64 n2] (.b r):=by
 unfold f142 at h
 refine fI func142 λ_ _=>?_
 refine Rcl 2 q (Bd q q (Zs _) q (Rll 8 q ?_))
 apply WL.and 6 (t:=9) (d:=15)
 exact q
 intro g
 exact Rl 3 q (Zy (ab bN t0.prots e35 q q Zl) q q q (Rl 2 q (WL.nil ⟨q,[_,_,_,_,_,_],q,q,q⟩)))
 exact Rn 6 6
 refine Rl 1 q ?_
 refine Ag 3 16 19 (λ_=>Rn 3 3) (Rn 3 3) ?_
 refine Rl 1 q ?_
 obtain⟨c,e,h⟩:=ac h
 refine Gg 10 20 30 c e (λh=>?_) (λh=>?_) ?_
 refine Rl 4 q ?_
 obtain⟨f,a,h⟩:=ac h
 refine Zy (ah e35 q Zl q (af a) (av jC a) q) q q q (Rl 2 q (Zy (ab dB f.barriers iq q q Zl) q q q (Rl 2 q ?_)))
 obtain rfl:=Oi h
 exact Nn 10
 refine Rl 10 q ?_
 obtain rfl:=Oi h
 exact Nn 10
 exact Rlx 4 q (FA h)

theorem f95_c(t0:ai)(x1:ap){r:Bool}(h:f95 t0 x1=some r):Pu prog 95 [.ag (R38 t0), .ag (R45 x1)] (.b r):=by
 unfold f95 at h
 refine fI func95 λ_ _=>?_
 refine Rcl 2 q (Bd q q (Zs _) q (Bd q q (Zs _) q (Rll 7 q ?_)))
 obtain⟨I,k,h⟩:=ac h
 refine wF Z4 (f139_c _ k) Lw Z3 (Rlc 3 q (Ci h q (λh=>?_) (λh=>?_)))
 exact Rcx 7 q (FA h)
 refine Rcc 10 q (Jn1 (λa=> [(2, .d (.pc (R38 t0))),(3, .d (.pc (R45 x1))),(13, .d (D.i .u8 x1.op)),(14, .d (D.b a))]) (λ_=> []) h (λ_ h=>?_) (λa h=>?_))
 refine Rcc 6 q (Ci h q (λh=>?_) (λh=>?_))
 exact Rcx 1 q (En1 h)
 exact Rcx 4 q (En1 h)
 refine Ci h q (λh=>?_) (λh=>?_)
 refine Rcl 7 q ?_
 obtain⟨J,m,h⟩:=ac h
 exact wF Z4 (f134_c _ _ _ _ m) Lw Z3 (Rlx 6 q (FA h))
 refine Jn1 (λc=> [(2, .d (.pc (R38 t0))),(3, .d (.pc (R45 x1))),(13, .d (D.i .u8 x1.op)),(23, .d (D.b c))]) (λ_=> []) h (λ_ h=>?_) (λc h=>?_)
 refine Rcc 6 q (Ci h q (λh=>?_) (λh=>?_))
 exact Rcx 1 q (En1 h)
 exact Rcx 4 q (En1 h)
 refine Ci h q (λh=>?_) (λh=>?_)
 refine Rcl 9 q ?_
 obtain⟨K,p,h⟩:=ac h
 exact wF Z4 (f134_c _ _ _ _ p) Lw Z3 (Rlx 6 q (FA h))
 refine Jn1 (λe=> [(2, .d (.pc (R38 t0))),(3, .d (.pc (R45 x1))),(13, .d (D.i .u8 x1.op)),(34, .d (D.b e))]) (λ_=> []) h (λ_ h=>?_) (λe h=>?_)
 refine Rcc 6 q (Ci h q (λh=>?_) (λh=>?_))
 exact Rcx 1 q (En1 h)
 refine Rcc 6 q (Ci h q (λh=>?_) (λh=>?_))
 exact Rcx 1 q (En1 h)
 exact Rcx 4 q (En1 h)
 refine Ci h q (λh=>?_) (λh=>?_)
 exact Rcl 5 q (wF Z4 (f30_c _ _) Lw Z3 (Rlx 6 q (FA h)))
 refine Rcc 6 q (Ci h q (λh=>?_) (λh=>?_))
 refine Rcl 7 q ?_
 obtain⟨L,w,h⟩:=ac h
 exact wF Z4 (f140_c _ _ _ w) Lw Z3 (Rlx 6 q (FA h))
 refine Rcc 6 q (Ci h q (λh=>?_) (λh=>?_))
 exact Rcx 13 q (FA h)
 refine Jn1 (λf=> [(2, .d (.pc (R38 t0))),(3, .d (.pc (R45 x1))),(13, .d (D.i .u8 x1.op)),(57, .d (D.b f))]) (λ_=> []) h (λ_ h=>?_) (λf h=>?_)
 refine Rcc 6 q (Ci h q (λh=>?_) (λh=>?_))
 exact Rcx 1 q (En1 h)
 refine Rcc 6 q (Ci h q (λh=>?_) (λh=>?_))
 exact Rcx 1 q (En1 h)
 refine Rcc 6 q (Ci h q (λh=>?_) (λh=>?_))
 exact Rcx 1 q (En1 h)
 exact Rcx 4 q (En1 h)
 refine Ci h q (λh=>?_) (λh=>?_)
 exact Rcl 6 q (Zq (ab E96 t0.lists e32 q q Zl) q (Rlx 7 q (FA h)))
 refine Rcc 6 q (Ci h q (λh=>?_) (λh=>?_))
 exact Rcl 6 q (Zq (ab bX t0.selects e31 q q Zl) q (Rlx 7 q (FA h)))
 refine Rcc 6 q (Ci h q (λh=>?_) (λh=>?_))
 refine Rcl 7 q ?_
 obtain⟨g,x,h⟩:=ac h
 refine wF Z4 (f141_c _ _ _ x) Lw Z3 (Rl 3 q (Al rC q (sS Z6 pq Z2 (Rll 7 q ?_))))
 obtain⟨y,A,h⟩:=ac h
 refine Gg 13 88 101 y A (λh=>?_) (λh=>?_) ?_
 refine Rl 5 q (Zy (ab E3 g.1.ins e96 q q Zl) q q q (Rl 2 q (Zy (ab E3 g.1.outs e96 q q Zl) q q q (Rl 2 q ?_))))
 obtain⟨M,B,h⟩:=ac h
 refine WL.fn q q q q (f134_c _ _ _ _ B) Lw (aX q q q) q q (Rl 1 q ?_)
 obtain rfl:=Oi h
 exact Nn 13
 refine Rl 13 q ?_
 obtain rfl:=Oi h
 exact Nn 13
 exact Rlx 6 q (FA h)
 refine Rcc 6 q (Ci h q (λh=>?_) (λh=>?_))
 refine Rcl 7 q ?_
 obtain⟨N,C,h⟩:=ac h
 refine wF Z4 (f141_c _ _ _ C) Lw Z3 (Rl 3 q (Al rC q (sS Z6 pq Z2 (Rll 7 q ?_))))
 apply WL.and 5 (t:=114) (d:=119)
 exact q
 intro O
 exact Rl 3 q (WL.fn q q q q (f30_c _ _) Lw (aX q q q) q q (Rl 1 q (WL.nil ⟨q,[_,_,_,_,_],q,q,q⟩)))
 exact Rn 5 5
 exact Rlx 6 q (FA h)
 refine Jn1 (λj=> [(2, .d (.pc (R38 t0))),(3, .d (.pc (R45 x1))),(13, .d (D.i .u8 x1.op)),(120, .d (D.b j))]) (λ_=> []) h (λ_ h=>?_) (λj h=>?_)
 refine Rcc 6 q (Ci h q (λh=>?_) (λh=>?_))
 exact Rcx 1 q (En1 h)
 exact Rcx 4 q (En1 h)
 refine Ci h q (λh=>?_) (λh=>?_)
 exact Rcl 6 q (Zq (ab bN t0.prots e35 q q Zl) q (Rlx 7 q (FA h)))
 refine Rcc 6 q (Ci h q (λh=>?_) (λh=>?_))
 refine Rcl 7 q ?_
 obtain⟨P,E,h⟩:=ac h
 exact wF Z4 (f142_c _ _ _ E) Lw Z3 (Rlx 6 q (FA h))
 refine Rcc 6 q (Ci h q (λh=>?_) (λh=>?_))
 refine Rcl 6 q ?_
 obtain⟨F,G,h⟩:=ac h
 refine Gg 7 142 149 F G (λh=>?_) (λh=>?_) ?_
 refine Rl 7 q ?_
 obtain rfl:=Oi h
 exact Nn 7
 refine Rl 5 q ?_
 obtain⟨Q,H,h⟩:=ac h
 refine WL.fn q q q q (f142_c _ _ _ H) Lw (aX q q q) q q (Rl 1 q ?_)
 obtain rfl:=Oi h
 exact Nn 7
 exact Rlx 6 q (FA h)
 exact Rcx 9 q (FA h)

theorem f48_c(t0:ai){r:Bool}(h:f48 t0=some r):Pu prog 48 [.ag (R38 t0)] (.b r):=by
 unfold f48 at h
 refine fI func48 λ_ _=>?_
 refine Rcl 2 q (Bd q q (Zs _) q (Rll 7 q (Zq (ab E45 t0.insns e23 q q Zl) q (Rll 9 q ?_))))
 refine Og 3 11 14 (λ_=>Rn 3 3) (Rn 3 3) ?_
 refine Rl 1 q ?_
 obtain⟨e,f,h⟩:=ac h
 refine Gg 4 15 19 e f (λh=>?_) (λh=>?_) ?_
 refine Rl 4 q ?_
 obtain rfl:=Oi h
 exact Nn 4
 refine Rl 1 q ?_
 obtain⟨K,g,h⟩:=ac h
 refine WL.fn q q q q (f89_c _ g) Lw (aX q q q) q q (Rl 2 q ?_)
 obtain rfl:=Oi h
 exact Nn 4
 refine Rl 1 q ?_
 obtain⟨j,k,h⟩:=ac h
 refine Gg 4 20 24 j k (λh=>?_) (λh=>?_) ?_
 refine Rl 4 q ?_
 obtain rfl:=Oi h
 exact Nn 4
 refine Rl 1 q ?_
 obtain⟨L,m,h⟩:=ac h
 refine WL.fn q q q q (f90_c _ m) Lw (aX q q q) q q (Rl 2 q ?_)
 obtain rfl:=Oi h
 exact Nn 4
 refine Rl 1 q ?_
 obtain⟨p,t,h⟩:=ac h
 refine Gg 4 25 29 p t (λh=>?_) (λh=>?_) ?_
 refine Rl 4 q ?_
 obtain rfl:=Oi h
 exact Nn 4
 refine Rl 1 q ?_
 obtain⟨M,w,h⟩:=ac h
 refine WL.fn q q q q (f91_c _ w) Lw (aX q q q) q q (Rl 2 q ?_)
 obtain rfl:=Oi h
 exact Nn 4
 refine Rl 1 q ?_
 obtain⟨x,y,h⟩:=ac h
 refine Gg 4 30 34 x y (λh=>?_) (λh=>?_) ?_
 refine Rl 4 q ?_
 obtain rfl:=Oi h
 exact Nn 4
 refine Rl 1 q ?_
 obtain⟨N,A,h⟩:=ac h
 refine WL.fn q q q q (f92_c _ A) Lw (aX q q q) q q (Rl 2 q ?_)
 obtain rfl:=Oi h
 exact Nn 4
 refine Rl 1 q ?_
 obtain⟨B,C,h⟩:=ac h
 refine Gg 4 35 39 B C (λh=>?_) (λh=>?_) ?_
 refine Rl 4 q ?_
 obtain rfl:=Oi h
 exact Nn 4
 refine Rl 1 q ?_
 obtain⟨O,E,h⟩:=ac h
 refine WL.fn q q q q (f93_c _ E) Lw (aX q q q) q q (Rl 2 q ?_)
 obtain rfl:=Oi h
 exact Nn 4
 refine Rl 1 q ?_
 obtain⟨F,G,h⟩:=ac h
 refine Gg 4 40 44 F G (λh=>?_) (λh=>?_) ?_
 refine Rl 4 q ?_
 obtain rfl:=Oi h
 exact Nn 4
 refine Rl 1 q ?_
 obtain⟨P,H,h⟩:=ac h
 refine WL.fn q q q q (f94_c _ H) Lw (aX q q q) q q (Rl 2 q ?_)
 obtain rfl:=Oi h
 exact Nn 4
 refine Rlc 2 q (Ci h q (λh=>?_) (λh=>?_))
 exact Rcx 7 q (FA h)
 refine Rcc 2 q (Jn0 [(1, .d (.pc (R38 t0))),(3, .n (List.length t0.insns:Int))] [] h (λI h=>?_) (λh=>?_))
 refine Rcc 6 q (Ln1 (λa=> [(1, .d (.pc (R38 t0))),(3, .n (List.length t0.insns:Int)),(4, .n a)]) (λ_=> []) (f48_l1 t0 I) h (λ_ h=>by rw[f48_l1] at h;cases h) (λn a h=>?_))
 rw[f48_l1] at h
 refine Rcc 8 q (Ci h q (λh=>?_) (λh=>?_))
 refine Rcc 5 q (an kR kR (Rq 4 q ?_))
 obtain⟨Q,c,h⟩:=ac h
 refine WQ.qn (ah e23 q Zl q (af c) (av dg c) q) q (Rq 1 q ?_)
 obtain⟨R,J,h⟩:=ac h
 refine WQ.q (YieldsQ.fn q q q q q (f95_c _ _ J) Lw) (Zw q) q q (Rq 1 q (WQ.nil (Rxc 1 q (Ci h q (λh=>?_) (λh=>?_)))))
 exact Rcx 11 q (FA h)
 exact Rcx 8 q (Fn1 h)
 exact Rcx 4 q (En0 h)
 refine Rcl 6 q (Ix h e23 dg q Zl q q λS _ h=>(Rll 10 q ?_))
 refine Og 3 67 70 (λ_=>Rn 3 3) (Rn 3 3) ?_
 refine Rl 1 q ?_
 refine Og 3 71 74 (λ_=>Rn 3 3) (Rn 3 3) ?_
 refine Rl 1 q ?_
 refine Og 3 75 78 (λ_=>Rn 3 3) (Rn 3 3) ?_
 exact Rlx 4 q (FA h)

theorem f49_c(t0:ai){r:List (List Int)}(h:f49 t0=some r):Pu prog 49 [.ag (R38 t0)] (.sl (List.map E42 r)):=by
 unfold f49 at h
 refine fI func49 λ_ _=>?_
 refine Rcl 2 q (Bd q q (Zs _) q (Rll 7 q ?_))
 obtain⟨bk,X,h⟩:=ac h
 refine wF Z4 (f48_c _ X) Lw Z3 (Rlc 3 q (Ci h q (λh=>?_) (λh=>?_)))
 exact Rcx 7 q (FA h)
 refine Rcl 5 q (WL.nil_os 3 42 1 q (eo (kr 2 1) (St q (Rlc 2 q ?_))))
 replace h:=aD h
 obtain⟨Q,Y,h⟩:=h
 refine cR (λenv' st'=>∃(a:Nat),∃(p:List (List Int)),∃(I:Nat),Q p=some r∧Sub [(1, .d (.pc (R38 t0))),(3, .os 0 a)] env'∧SLe st' [oS a 1 I p,fS I p]) ?_ ?_
 refine Rcc 6 q (dh (λn env' st'=>∃(f:Int),∃(c:Nat),∃(l96:List (List Int)),∃(g:Nat),f49_l1 t0 Q n f l96=some r∧Sub [(1, .d (.pc (R38 t0))),(3, .os 0 c),(4, .n f)] env'∧SLe st' [oS c 1 g l96,fS g l96]) (λn=>n) 9223372036854775808 ⟨0,_,([]:List (List Int)),_,h,(Sx q (Sx q (Sx q (Sub.nil _)))),⟨Zf,Zf,Zt⟩⟩ ?_)
 rintro n y st1 ⟨f,c,l96,g,h,hsub,hst⟩
 rcases n with _|n
 rw[f49_l1] at h;cases h
 rw[f49_l1] at h
 refine WC.sub hsub (WC.weak hst ?_)
 refine Rcl 6 q (Zq (ab bp t0.objs e33 q q Zl) q (Rlc 3 q (Ci h q (λh=>?_) (λh=>?_))))
 refine Rcc 2 q ?_
 replace h:=aD h
 obtain⟨Z,ad,h⟩:=h
 refine cR (λenv' st'=>∃(A:List (List Int)),∃(J:Nat),Z A=some r∧Sub [(1, .d (.pc (R38 t0))),(3, .os 0 (c+1)),(4, .n f)] env'∧SLe st' [.os 42 1 (c+1) (br 1 J (List.length A)),fS J A, .z, .z]) ?_ ?_
 refine Rcl 6 q (Ix h e33 bH q Zl q q λbo _ h=>(Rl 2 q ?_))
 replace h:=aE h
 obtain⟨ax,h⟩:=h
 refine WL.s ((NewOs.b (NewOs.cast (eN l42 z2 q (Nat.succ_pos _) q q ax) (by exact fg (R:=E2) (z:=(0:Int)) q))).does) (Zw q) q q (Rlc 3 q (Jn1 (λ_=> [(1, .d (.pc (R38 t0))),(3, .os 0 c),(4, .n f),(5, .os 2 0)]) (λB=> [oS c 1 g l96,fS g l96,uS 0 B]) h (λa0 h=>?_) (λB h=>?_)))
 refine Rcc 6 q (Ln2 (λK _=> [(1, .d (.pc (R38 t0))),(3, .os 0 c),(4, .n f),(5, .os 2 0),(6, .n K)]) (λ_ M=> [oS c 1 g l96,fS g l96,uS 0 M]) (f49_l2 t0 f a0) h (λ_ _ h=>by rw[f49_l2] at h;cases h) (λna K M h=>?_))
 rw[f49_l2] at h
 refine Rcl 5 q (Zq (fp (ba E2) M e42 q q q) q (Rl 2 q ?_))
 obtain⟨a1,a6,h⟩:=ac h
 refine Gg 8 29 37 a1 a6 (λh=>?_) (λh=>?_) ?_
 refine Rl 3 q ?_
 obtain⟨bs,S,h⟩:=ac h
 refine Zy (ah e33 q Zl q (af S) (av bH S) q) q q q (Rl 1 q ?_)
 obtain⟨b0,a7,h⟩:=ac h
 refine WL.fn q q q q (f34_c _ _ a7) Lw (aX q q q) q q (Rl 2 q ?_)
 obtain rfl:=Oi h
 exact Nn 8
 refine Rl 8 q ?_
 obtain rfl:=Oi h
 exact Nn 8
 refine Rlc 2 q (Ci h q (λh=>?_) (λh=>?_))
 refine Rcl 10 q (Ix h e33 bH q Zl q q λa8 _ h=>(Rl 2 q ?_))
 obtain⟨b1,T,h⟩:=ac h
 exact Zq (kI e42 q q q T) q (WL.s0 (cV (R:=E2) (k:=1) (i:=K) (fo:=0) a8.lo q q q q Zl q q q s2 q (λ_=>q) T q q) (Zw q) q (Rlx 8 q (Fn2 h)))
 exact Rcx 4 q (En1 h)
 refine Rcl 3 q (WL.s (((NewOs.b (iu l62 z42 q dC dC q q q dC))).does) (Zw q) q q ?_)
 replace h:=aE h
 obtain⟨a',h⟩:=h
 exact WL.s (ta l96 B l62 z42 q q q q q q q a') (Zw q) q q (eo (ku (E:=E2) (L:=l96) (x':=B) 0 1 2 q q q q q q) (St q (Rlx 3 q (En2 h))))
 rintro y st1 ⟨A,J,h,hsub,hst⟩
 subst ad
 dsimp only at h
 refine WC.sub hsub (WC.weak hst ?_)
 exact Rcx 5 q (WE.drop 2 (env':=[(1, .d (.pc (R38 t0))),(3, .os 0 (c+1)),(4, .n (IntKind.i64.wrap (f+1)))]) Sb q Kv (Nat.zero_le _) (Fn4 h))
 exact Rcx 4 q (En3 h)
 rintro y st1 ⟨a,p,I,h,hsub,hst⟩
 subst Y
 dsimp only at h
 refine WC.sub hsub (WC.weak hst ?_)
 replace h:=aD h
 obtain⟨U,bb,h⟩:=h
 refine cR (λenv' st'=>∃(t:List (List Int)),∃(N:Nat),U t=some r∧Sub [(3, .os 0 a)] env'∧SLe st' [oS a 1 N t,fS N t]) ?_ ?_
 refine Rcc 6 q (dh (λn env' st'=>∃(C:Int),∃(e:List (List Int)),∃(j:Nat),f49_l3 t0 U n C e=some r∧Sub [(1, .d (.pc (R38 t0))),(3, .os 0 a),(7, .n C)] env'∧SLe st' [oS a 1 j e,fS j e]) (λn=>n) 9223372036854775808 ⟨0,p,_,h,(Sx q (Sx q (Sx q (Sub.nil _)))),⟨Zf,Zf,Zt⟩⟩ ?_)
 rintro n y st1 ⟨C,e,j,h,hsub,hst⟩
 rcases n with _|n
 rw[f49_l3] at h;cases h
 rw[f49_l3] at h
 refine WC.sub hsub (WC.weak hst ?_)
 refine Rcl 6 q (Zq (ab bU t0.inits e34 q q Zl) q (Rlc 3 q (Ci h q (λh=>?_) (λh=>?_))))
 refine Rcc 4 q ?_
 obtain⟨m,V,h⟩:=ac h
 obtain⟨F,w,h⟩:=ac h
 obtain⟨O,G,h⟩:=ac h
 obtain⟨P,H,h⟩:=ac h
 obtain⟨b2,W,h⟩:=ac h
 apply RT [_,_,_,_,_,_,_,_,_,_,_,_,_,_,_,_,_,_,_,_,_,_, .u] [8,22] [[.os 42 1 a (List.set (br 1 (j+1) (List.length e)) (Int.toNat m.o) [.os 2 0]), .fam 2 1 (j+1) (bn E2 (List.set e (Int.toNat m.o) [])),uS 0 F],[.os 42 1 a (List.set (br 1 (j+1) (List.length e)) (Int.toNat m.o) [.os 2 0]), .fam 2 1 (j+1) (bn E2 (List.set e (Int.toNat m.o) [])), .os 2 1 0 (eM E2 (List.set F (Int.toNat O.slot) P.v))]] [p01 3,p01 1,p10 1,p01 7,p20 2 3,p10 4,p10 5,p20 0 6,p10 7,u01 1,u10 9,u01 7,u20 10 11,u10 12,u10 13,u01 1,u10 15,u01 7,u20 16 17,u10 18,u10 19,q20 8 14 1,q20 21 20 1] kR kR q q
 refine Y4 ?_
 refine zo (λ_=>Zq (ah e34 q Zl q (af V) (av eK V) q) q (Zd q q q)) ?_
 refine Y2 ?_
 refine zo (λ_=>Zq (dm e62 q q q (af w) (dD w)) q (Zd q q q)) ?_
 refine zo (λ_=>eo (fA (L:=e) (x:=F) (i:=m.o) 0 1 q q q w) (Zq (fY (i:=m.o) q q a42 (bV w)) q (Zd q q q))) ?_
 refine X2c ?_
 refine⟨⟨λ_=>Zq (ah e34 q Zl q (af G) (av eK G) q) q (Zd q q q),λ_=>Zq (ah e34 q Zl q (af G) (av eK G) q) q (Zd q q q),Zt⟩,?_⟩
 refine X2d ?_
 refine X2a ?_
 refine⟨⟨λ_=>Zq (ah e34 q Zl q (af H) (av eK H) q) q (Zd q q q),λ_=>Zq (ah e34 q Zl q (af H) (av eK H) q) q (Zd q q q),Zt⟩,?_⟩
 refine X2b ?_
 refine zo (λ_=>Zq (kI e42 q q q W) q (Zd q q q)) ?_
 exact zo (λ_=>WL.s0 (cV (R:=E2) (k:=1) (i:=O.slot) (fo:=0) P.v q q q q Zl q q q s2 q (λ_=>q) W q q) (Zw q) q (aT q q)) Zt
 exact mT (fB (L0:=e) (x':=(List.set F (Int.toNat O.slot) P.v)) 0 1 2 q q q q q (bV w)) (Rxx 7 q (WE.drop 2 (env':=[(1, .d (.pc (R38 t0))),(3, .os 0 a),(7, .n (IntKind.i64.wrap (C+1)))]) Sb q Kv (Nat.zero_le _) (Fn3 h)))
 exact Rcx 4 q (En2 h)
 rintro y st1 ⟨t,N,h,hsub,hst⟩
 subst bb
 dsimp only at h
 refine WC.sub hsub (WC.weak hst ?_)
 refine Rcx 7 q (mT (lk (E:=E2) (R':=E2) (L:=t) 0 1 dJ q q q) ?_)
 exact WE.freezeX [3,82,2] [] 0 _ q (am fN _) ⟨q,q,q,Zt⟩ Zt (FA h)

theorem f16_c(t0:ai)(a:List Int){r:Mem×Int}(h:f16 t0 a=some r):Pu prog 16 [.ag (R38 t0), .sl (List.map E2 a)] (.tu [.ag (R64 r.1), .i .i64 r.2]):=by
 unfold f16 at h
 refine fI func16 λ_ _=>?_
 refine Rcl 2 q (Bd q q (Zs _) q (Al z64 q (Rll 7 q ?_)))
 obtain⟨f,c,h⟩:=ac h
 refine wF Z4 (f48_c _ c) Lw Z3 (Rlc 3 q (Ci h q (λh=>?_) (λh=>?_)))
 refine Rcl 2 q (Zq (aa p64 z64 q q) q (sS Z6 s64 Z2 (St q (Rlx 5 q ?_))))
 obtain rfl:=Oi h
 exact ao (rs2 q (bc q q a64 s64 q) (ay q)) (aV ⟨(aj ⟨Le.nil,Le.nil,Le.nil,Le.nil,Le.nil,Le.nil,Le.nil,Zl,Le.nil,Le.nil,Le.nil,Le.nil,Le.nil,Le.nil,Zt⟩),Zl,Zt⟩)
 refine Rcc 3 q ?_
 obtain⟨d,e,h⟩:=ac h
 apply RT [_,_,_,_,_, .u,_] [5] [[.row 64 [.l E45 t0.insns, .l bu t0.handlers, .l cg t0.loops, .l bX t0.selects, .l E96 t0.lists, .l bp t0.objs, .l bU t0.inits, .n t0.excs, .l E27 t0.tasks, .l bN t0.prots, .l co t0.checks, .l E42 d, .l E2 a,sN]]] [p01 2,p01 2,p10 1,p01 1,p30 0 2 3,p11 4 4,q00 1] kR kR q q
 refine Y2 ?_
 refine zo (λ_=>wF Z4 (f49_c _ e) Lw Z3 (Zd q q q)) ?_
 refine Y1 ?_
 refine zo (λ_=>Zq (aa p64 z64 q q) q (Zd q q q)) ?_
 refine zo (λ_=>sS Z6 s64 Z2 (aT q q)) ?_
 exact Y1 Zt
 refine Rxx 2 q ?_
 obtain rfl:=Oi h
 exact ao (rs2 q (bc q q a64 s64 q) (ay q)) (aV ⟨(aj ⟨Zl,Zl,Zl,Zl,Zl,Zl,Zl,Zl,Zl,Zl,Zl,Zl,Zl,Le.nil,Zt⟩),Zl,Zt⟩)

theorem f31_c(t0:ai)(r1:aI):Pu prog 31 [.ag (R38 t0), .ag (R41 r1)] (.b (f31 t0 r1)):=by
 generalize h:f31 t0 r1=r
 unfold f31 at h
 refine fI func31 λ_ _=>?_
 refine Rcl 2 q (Bd q q (Zs _) q (Bd q q (Zs _) q (Rll 8 q (wF Z4 (f30_c _ _) Lw Z3 (Rl 1 q ?_)))))
 refine Ag 4 9 13 (λ_=>Rn 4 4) (Rn 4 4) ?_
 refine Rl 1 q ?_
 refine Ag 6 14 20 (λ_=>Rn 6 6) (Rn 6 6) ?_
 refine Rl 1 q ?_
 refine Ag 4 21 25 (λ_=>Rn 4 4) (Rn 4 4) ?_
 refine Rl 1 q ?_
 refine Ag 4 26 30 (λ_=>Rn 4 4) (Rn 4 4) ?_
 exact Rlx 4 q (FB h)

theorem f50_c(o0:Int):Pu prog 50 [.i .u8 o0] (.b (f50 o0)):=by
 generalize h:f50 o0=r
 unfold f50 at h
 refine fI func50 λ_ _=>?_
 refine Rcl 10 q ?_
 refine Ag 3 5 8 (λ_=>Rn 3 3) (Rn 3 3) ?_
 exact Rlx 4 q (FB h)

theorem f64_c(m0:Mem)(o1:Int)(k2:Int)(v3:Int){r:Mem×Bool}(h:f64 m0 o1 k2 v3=some r):Pu prog 64 [.ag (R64 m0), .i .i64 o1, .i .i64 k2, .i .i64 v3] (.tu [.ag (R64 r.1), .b r.2]):=by
 unfold f64 at h
 refine fI func64 λ_ _=>?_
 refine Rcl 2 q (Bx q q q (Al z64 q (Rll 10 q (Ix h e33 bH q Zl q q λH _ h=>(Rl 2 q ?_)))))
 obtain⟨I,A,h⟩:=ac h
 refine wF Z4 (f34_c _ _ A) Lw Z3 (Rlc 3 q (Ci h q (λh=>?_) (λh=>?_)))
 refine Rcl 3 q (sS Z6 s64 Z2 (St q (Rlx 5 q ?_)))
 obtain rfl:=Oi h
 exact ao (rs2 q (bc q q a64 s64 q) (ay q)) (aV ⟨(aj (Zs _)),Zl,Zt⟩)
 refine Rcl 5 q (WL.nil_os 10 42 1 q (eo (kr 2 1) (St q (Rlc 2 q ?_))))
 replace h:=aD h
 obtain⟨w,B,h⟩:=h
 refine cR (λenv' st'=>∃(f:Nat),∃(a:List (List Int)),∃(c:Nat),w a=some r∧Sub [(1, .n o1),(2, .n k2),(3, .n v3),(4, .pt 0 0),(8, .pt 1 0),(10, .os 2 f)] env'∧SLe st' [.row 64 [.l E45 m0.t.insns, .l bu m0.t.handlers, .l cg m0.t.loops, .l bX m0.t.selects, .l E96 m0.t.lists, .l bp m0.t.objs, .l bU m0.t.inits, .n m0.t.excs, .l E27 m0.t.tasks, .l bN m0.t.prots, .l co m0.t.checks, .l E42 m0.slots, .l E2 m0.in_, .l E2 m0.out], .row 64 [sN,sN,sN,sN,sN,sN,sN, .n 0,sN,sN,sN,sN,sN,sN],oS f 3 c a,fS c a]) ?_ ?_
 refine Rcc 6 q (dh (λn env' st'=>∃(j:Int),∃(k:Nat),∃(d:List (List Int)),∃(m:Nat),f64_l1 m0 w n j d=some r∧Sub [(1, .n o1),(2, .n k2),(3, .n v3),(4, .pt 0 0),(8, .pt 1 0),(10, .os 2 k),(11, .n j)] env'∧SLe st' [.row 64 [.l E45 m0.t.insns, .l bu m0.t.handlers, .l cg m0.t.loops, .l bX m0.t.selects, .l E96 m0.t.lists, .l bp m0.t.objs, .l bU m0.t.inits, .n m0.t.excs, .l E27 m0.t.tasks, .l bN m0.t.prots, .l co m0.t.checks, .l E42 m0.slots, .l E2 m0.in_, .l E2 m0.out], .row 64 [sN,sN,sN,sN,sN,sN,sN, .n 0,sN,sN,sN,sN,sN,sN],oS k 3 m d,fS m d]) (λn=>n) 9223372036854775808 ⟨0,_,([]:List (List Int)),_,h,(Sx q (Sx q (Sx q (Sx q (Sx q (Sx q (Sx q (Sub.nil _)))))))),⟨Zp,Zp,Zf,Zf,Zt⟩⟩ ?_)
 rintro n C st1 ⟨j,k,d,m,h,hsub,hst⟩
 rcases n with _|n
 rw[f64_l1] at h;cases h
 rw[f64_l1] at h
 refine WC.sub hsub (WC.weak hst ?_)
 refine Rcl 6 q (Zq (ab E42 m0.slots e62 q q Zl) q (Rlc 3 q (Ci h q (λh=>?_) (λh=>?_))))
 refine Rcl 7 q (WL.nil_os 12 2 1 q (Rll 8 q (Ix h e62 fN q Zl q q λp _ h=>(Rl 1 q ?_))))
 replace h:=aE h
 obtain⟨F,h⟩:=h
 refine WL.s (dz E2 [] p l42 z2 q dC q q q q (dc Zl dJ (λ_=>q)) (λ_=>q) (λ_=>q) F) (Zw q) q q (WL.s (((NewOs.b (iu l62 z42 q dC dC q q q dC))).does) (Zw q) q q ?_)
 replace h:=aE h
 obtain⟨G,h⟩:=h
 exact WL.s (ta d ([]++p) l62 z42 q q q q q q q G) (Zw q) q q (eo (ku (E:=E2) (L:=d) (x':=([]++p)) 2 3 4 q q q q q q) (St q (Rlx 9 q (WE.drop 4 (env':=[(1, .n o1),(2, .n k2),(3, .n v3),(4, .pt 0 0),(8, .pt 1 0),(10, .os 2 (k+1)),(11, .n (IntKind.i64.wrap (j+1)))]) Sb q Kv (Nat.zero_le _) (Fn4 h)))))
 exact Rcx 4 q (En3 h)
 rintro C st1 ⟨f,a,c,h,hsub,hst⟩
 subst B
 dsimp only at h
 refine WC.sub hsub (WC.weak hst ?_)
 refine Rcl 4 q ?_
 obtain⟨e,g,h⟩:=ac h
 refine Zq (dm e62 q q q (af g) (dD g)) q (Zq (ep (i:=o1) q q a42 (bV g)) q (Rl 2 q ?_))
 obtain⟨x,y,h⟩:=ac h
 refine Zq (jE (E:=E2) (L:=a) (M:=e) (v:=x) e42 q q (bF g) q y) q (WL.s0 (kv (E:=E2) (L:=a) (M:=e) (v:=x) (z:=v3) (i:=k2) q q (bF g) y (λ_=>q) q q Lw q s2) (Zw q) q ?_)
 refine WL.st (st':=[.row 64 [.l E45 m0.t.insns, .l bu m0.t.handlers, .l cg m0.t.loops, .l bX m0.t.selects, .l E96 m0.t.lists, .l bp m0.t.objs, .l bU m0.t.inits, .n m0.t.excs, .l E27 m0.t.tasks, .l bN m0.t.prots, .l co m0.t.checks, .l E42 m0.slots, .l E2 m0.in_, .l E2 m0.out], .row 64 [sN,sN,sN,sN,sN,sN,sN, .n 0,sN,sN,sN,sN,sN,sN], .os 42 1 f (br 3 c (List.length (List.set a (Int.toNat o1) (List.set e (Int.toNat k2) v3)))), .fam 2 1 c (bn E2 (List.set a (Int.toNat o1) (List.set e (Int.toNat k2) v3)))]) (by show([.row 64 [.l E45 m0.t.insns, .l bu m0.t.handlers, .l cg m0.t.loops, .l bX m0.t.selects, .l E96 m0.t.lists, .l bp m0.t.objs, .l bU m0.t.inits, .n m0.t.excs, .l E27 m0.t.tasks, .l bN m0.t.prots, .l co m0.t.checks, .l E42 m0.slots, .l E2 m0.in_, .l E2 m0.out], .row 64 [sN,sN,sN,sN,sN,sN,sN, .n 0,sN,sN,sN,sN,sN,sN],oS f 3 c a, .fam 2 1 c (bn E2 (List.set a (Int.toNat o1) (List.set e (Int.toNat k2) v3)))]:List AO)=_;rw[List.length_set]) (Rlc 3 q ?_)
 refine qC (lk (E:=E2) (R':=E2) (L:=(List.set a (Int.toNat o1) (List.set e (Int.toNat k2) v3))) 2 3 dJ q q q) ?_
 refine WC.freezeX [10,40] [] 2 _ q (am fN _) ⟨q,q,Zt⟩ Zt (Rcl 3 q (sS Z6 s62 Z2 (St q (Rll 5 q (sS Z6 s64 Z2 (St q (Rlx 4 q ?_)))))))
 obtain rfl:=Oi h
 exact ao (rs2 q (bc q q a64 s64 q) (ay q)) (aV ⟨(aj (Zs _)),Zl,Zt⟩)

theorem f96_c(m0:Mem):Pu prog 96 [.ag (R64 m0)] (.ag (l5 (f96 m0))):=by
 generalize h:f96 m0=r
 unfold f96 at h
 refine fI func96 λ_ _=>?_
 refine Rcl 2 q (Bd q q (Zs _) q (Al mW q (Rll 5 q (Zq (aa p123 mW q q) q (sS Z6 cM Z2 (St q (Rlx 3 q ?_)))))))
 subst h
 exact ao (rs1 q (bc q q gq cM q)) (aj ⟨Zl,Zl,Zl,Zl,Zl,Zl,Zl,Zl,Zl,Zl,Zl,Zl,Zl,Zl,Zl,Zl,Zl,Zl,Zl,Zl,Zl,Zl,Zl,Zl,Zl,Zl,Zl,Zl,Zl,Zl,Zl,Zl,Zl,Le.nil,Zl,Zt⟩)

theorem f97_c(s0:aw):Pu prog 97 [.ag (l5 s0)] (.ag (l5 (f97 s0))):=by
 generalize h:f97 s0=r
 unfold f97 at h
 refine fI func97 λ_ _=>?_
 refine Rcl 2 q (Bx q q q (Al mW q (Rll 10 q (sS Z6 s3 Z2 (St q (Rlc 2 q (Jn1 (λ_=> [(1, .pt 0 0),(2, .pt 1 0)]) (λa=> [.row 123 (([.l E45 s0.m.t.insns, .l bu s0.m.t.handlers, .l cg s0.m.t.loops, .l bX s0.m.t.selects, .l E96 s0.m.t.lists, .l bp s0.m.t.objs, .l bU s0.m.t.inits, .n s0.m.t.excs, .l E27 s0.m.t.tasks, .l bN s0.m.t.prots, .l co s0.m.t.checks, .l E42 s0.m.slots, .l E2 s0.m.in_, .l E2 s0.m.out]:List AV)++(aY 16 (λj=> .n (s0.r.r j))++([.n (IntKind.i64.wrap (s0.r.pc+1)), .n s0.r.exc, .n s0.r.defer, .l E58 s0.acts, .n a]:List AV):List AV)), .row 123 [sN,sN,sN,sN,sN,sN,sN, .n 0,sN,sN,sN,sN,sN,sN, .n 0, .n 0, .n 0, .n 0, .n 0, .n 0, .n 0, .n 0, .n 0, .n 0, .n 0, .n 0, .n 0, .n 0, .n 0, .n 0, .n 0, .n 0, .n 0,sN, .n 0]]) h (λ_ h=>?_) (λa h=>?_))))))))
 refine Rcl 8 q (wF Z4 (f30_c _ _) ⟨(aj (Zs _)),Zl,Zt⟩ Z3 (Rlc 3 q (Ci h q (λh=>?_) (λh=>?_))))
 exact Rcl 2 q (sS Z6 s3 Z2 (St q (Rlx 1 q (En1 h))))
 exact Rcx 1 q (En1 h)
 refine Rcl 3 q (sS Z6 cM Z2 (St q (Rlx 3 q ?_)))
 subst h
 exact ao (rs1 q (bc q q gq cM q)) (aj (Zs _))

theorem f51_c(s0:aw)(x1:ap){r:aw}(h:f51 s0 x1=some r):Pu prog 51 [.ag (l5 s0), .ag (R45 x1)] (.ag (l5 r)):=by
 unfold f51 at h
 refine fI func51 λ_ _=>?_
 refine Rcl 2 q (Bx q q q (Bd q q (Zs _) q (Al mW q (Rll 6 q (Al z41 q (sS Z6 s41 Z2 (St q (Rlc 3 q (an kR kR (Rq 6 q (WQ.nil (Rxl 6 q ?_))))))))))))
 replace h:=aE h
 obtain⟨g,h⟩:=h
 refine Zq (aB dI q q (bw g) (bv g)) q (Zq (cv (off:=0) (n:=16) (λj=> .n (s0.r.r j)) q q a2 q g) q (Rll 8 q ?_))
 replace h:=aE h
 obtain⟨k,h⟩:=h
 refine Zq (aB dI q q (bw k) (bv k)) q (Zq (cv (off:=0) (n:=16) (λj=> .n (s0.r.r j)) q q a2 q k) q (Rlc 3 q (Jn1 (λc=> [(2, .pt 0 0),(3, .d (.pc (R45 x1))),(4, .pt 1 0),(6, .n x1.n),(7, .n x1.m),(8, .n c),(9, .n (s0.r.r (Int.toNat x1.a)))]) (λ_=> [.row 123 (([.l E45 s0.m.t.insns, .l bu s0.m.t.handlers, .l cg s0.m.t.loops, .l bX s0.m.t.selects, .l E96 s0.m.t.lists, .l bp s0.m.t.objs, .l bU s0.m.t.inits, .n s0.m.t.excs, .l E27 s0.m.t.tasks, .l bN s0.m.t.prots, .l co s0.m.t.checks, .l E42 s0.m.slots, .l E2 s0.m.in_, .l E2 s0.m.out]:List AV)++(aY 16 (λj=> .n (s0.r.r j))++([.n s0.r.pc, .n s0.r.exc, .n s0.r.defer, .l E58 s0.acts, .n s0.e]:List AV):List AV)), .row 123 [sN,sN,sN,sN,sN,sN,sN, .n 0,sN,sN,sN,sN,sN,sN, .n 0, .n 0, .n 0, .n 0, .n 0, .n 0, .n 0, .n 0, .n 0, .n 0, .n 0, .n 0, .n 0, .n 0, .n 0, .n 0, .n 0, .n 0, .n 0,sN, .n 0], .row 41 (rG s0.r)]) h (λ_ h=>?_) (λc h=>?_))))
 refine Rcc 7 q (Ci h q (λh=>?_) (λh=>?_))
 exact Rcx 4 q (En1 h)
 exact Rcx 1 q (En1 h)
 refine Jn1 (λw=> [(2, .pt 0 0),(3, .d (.pc (R45 x1))),(4, .pt 1 0),(6, .n x1.n),(7, .n w),(8, .n c),(9, .n (s0.r.r (Int.toNat x1.a)))]) (λ_=> [.row 123 (([.l E45 s0.m.t.insns, .l bu s0.m.t.handlers, .l cg s0.m.t.loops, .l bX s0.m.t.selects, .l E96 s0.m.t.lists, .l bp s0.m.t.objs, .l bU s0.m.t.inits, .n s0.m.t.excs, .l E27 s0.m.t.tasks, .l bN s0.m.t.prots, .l co s0.m.t.checks, .l E42 s0.m.slots, .l E2 s0.m.in_, .l E2 s0.m.out]:List AV)++(aY 16 (λj=> .n (s0.r.r j))++([.n s0.r.pc, .n s0.r.exc, .n s0.r.defer, .l E58 s0.acts, .n s0.e]:List AV):List AV)), .row 123 [sN,sN,sN,sN,sN,sN,sN, .n 0,sN,sN,sN,sN,sN,sN, .n 0, .n 0, .n 0, .n 0, .n 0, .n 0, .n 0, .n 0, .n 0, .n 0, .n 0, .n 0, .n 0, .n 0, .n 0, .n 0, .n 0, .n 0, .n 0,sN, .n 0], .row 41 (rG s0.r)]) h (λ_ h=>?_) (λw h=>?_)
 refine Rcl 6 q ?_
 refine Og 4 35 39 (λ_=>Rn 4 4) (Rn 4 4) ?_
 refine Rlc 2 q (Ci h q (λh=>?_) (λh=>?_))
 refine Rcl 6 q ?_
 refine Og 5 42 47 (λ_=>Rn 5 5) (Rn 5 5) ?_
 refine Rlc 2 q (Ci h q (λh=>?_) (λh=>?_))
 refine Rcl 4 q (wF Z4 (f96_c _) ⟨(aj (Zs _)),Zt⟩ Z3 (sS Z6 cM Z2 (St q (Rlx 5 q ?_))))
 obtain rfl:=Oi h
 exact ao (rs1 q (bc q q gq cM q)) (aj (Zs _))
 exact Rcx 8 q (En1 h)
 exact Rcx 1 q (En1 h)
 refine Jn2 (λy A=> [(2, .pt 0 0),(3, .d (.pc (R45 x1))),(4, .pt 1 0),(6, .n y),(7, .n A),(8, .n c)]) (λ_ _=> [.row 123 (([.l E45 s0.m.t.insns, .l bu s0.m.t.handlers, .l cg s0.m.t.loops, .l bX s0.m.t.selects, .l E96 s0.m.t.lists, .l bp s0.m.t.objs, .l bU s0.m.t.inits, .n s0.m.t.excs, .l E27 s0.m.t.tasks, .l bN s0.m.t.prots, .l co s0.m.t.checks, .l E42 s0.m.slots, .l E2 s0.m.in_, .l E2 s0.m.out]:List AV)++(aY 16 (λj=> .n (s0.r.r j))++([.n s0.r.pc, .n s0.r.exc, .n s0.r.defer, .l E58 s0.acts, .n s0.e]:List AV):List AV)), .row 123 [sN,sN,sN,sN,sN,sN,sN, .n 0,sN,sN,sN,sN,sN,sN, .n 0, .n 0, .n 0, .n 0, .n 0, .n 0, .n 0, .n 0, .n 0, .n 0, .n 0, .n 0, .n 0, .n 0, .n 0, .n 0, .n 0, .n 0, .n 0,sN, .n 0], .row 41 (rG s0.r)]) h (λ_ h=>?_) (λy A h=>?_)
 refine Rcl 6 q ?_
 refine Og 4 57 61 (λ_=>Rn 4 4) (Rn 4 4) ?_
 refine Rlc 2 q (Ci h q (λh=>?_) (λh=>?_))
 refine Rcl 6 q ?_
 apply WL.or 7 (t:=64) (d:=71)
 exact q
 intro G
 exact Rl 4 q (Zy (ab E42 s0.m.slots e62 q q Zl) q q q (Rl 2 q (WL.nil ⟨q,[_,_,_,_,_,_,_],q,q,q⟩)))
 exact Rn 7 7
 refine Rlc 2 q (Ci h q (λh=>?_) (λh=>?_))
 refine Rcl 4 q (wF Z4 (f96_c _) ⟨(aj (Zs _)),Zt⟩ Z3 (sS Z6 cM Z2 (St q (Rlx 5 q ?_))))
 obtain rfl:=Oi h
 exact ao (rs1 q (bc q q gq cM q)) (aj (Zs _))
 exact Rcx 12 q (En2 h)
 exact Rcx 1 q (En2 h)
 refine Rcl 7 q ?_
 refine Og 4 80 84 (λ_=>Rn 4 4) (Rn 4 4) ?_
 refine Rl 1 q ?_
 refine Og 4 85 89 (λ_=>Rn 4 4) (Rn 4 4) ?_
 refine Rlc 2 q (Ci h q (λh=>?_) (λh=>?_))
 refine Rcc 1 q ?_
 obtain⟨H,B,h⟩:=ac h
 obtain⟨f,C,h⟩:=ac h
 replace h:=aE h
 obtain⟨p,h⟩:=h
 apply RT [_,_,_,_,_,_,_,_,_,_,_,_,_,_, .u] [14] [[.row 123 (([.l E45 s0.m.t.insns, .l bu s0.m.t.handlers, .l cg s0.m.t.loops, .l bX s0.m.t.selects, .l E96 s0.m.t.lists, .l bp s0.m.t.objs, .l bU s0.m.t.inits, .n s0.m.t.excs, .l E27 s0.m.t.tasks, .l bN s0.m.t.prots, .l co s0.m.t.checks, .l E42 s0.m.slots, .l E2 s0.m.in_, .l E2 s0.m.out]:List AV)++(aY 16 (λj=> .n ((bz s0.r.r (Int.toNat x1.d) f) j))++([.n s0.r.pc, .n s0.r.exc, .n s0.r.defer, .l E58 s0.acts, .n s0.e]:List AV):List AV)), .row 123 [sN,sN,sN,sN,sN,sN,sN, .n 0,sN,sN,sN,sN,sN,sN, .n 0, .n 0, .n 0, .n 0, .n 0, .n 0, .n 0, .n 0, .n 0, .n 0, .n 0, .n 0, .n 0, .n 0, .n 0, .n 0, .n 0, .n 0, .n 0,sN, .n 0], .row 41 (rG s0.r)]] [p01 3,p10 0,p01 2,p10 2,p10 3,p01 6,p20 4 5,p10 6,p01 7,p20 7 8,p10 9,p01 2,p10 11,p20 12 1,p20 13 10] kR kR q q
 refine Y6 ?_
 refine zo (λ_=>Zq (ah e62 q Zl q (af B) (av fN B) q) q (Zd q q q)) ?_
 refine Y2 ?_
 refine zo (λ_=>Zq (ah e42 q Zl q (af C) (av dJ C) q) q (Zd q q q)) ?_
 refine Y3 ?_
 refine zo (λ_=>Zq (aB dI q q (bw p) (bv p)) q (Zd q q q)) ?_
 exact zo (λ_=>WL.s0 (cZ (off:=14) (n:=16) (cs':=(([.l E45 s0.m.t.insns, .l bu s0.m.t.handlers, .l cg s0.m.t.loops, .l bX s0.m.t.selects, .l E96 s0.m.t.lists, .l bp s0.m.t.objs, .l bU s0.m.t.inits, .n s0.m.t.excs, .l E27 s0.m.t.tasks, .l bN s0.m.t.prots, .l co s0.m.t.checks, .l E42 s0.m.slots, .l E2 s0.m.in_, .l E2 s0.m.out]:List AV)++(aY 16 (λj=> .n ((bz s0.r.r (Int.toNat x1.d) f) j))++([.n s0.r.pc, .n s0.r.exc, .n s0.r.defer, .l E58 s0.acts, .n s0.e]:List AV):List AV))) (λx=> .n x) s0.r.r f q q q (eT q) s2 q q p q) (Zw q) q (aT q q)) Zt
 refine Rxl 4 q (WL.fn q q q q (f97_c (aw.mk s0.m (aI.mk (bz s0.r.r (Int.toNat x1.d) f) s0.r.pc s0.r.exc s0.r.defer) s0.acts s0.e)) ⟨(aj (Zs _)),Zt⟩ (Zw q) q q (sS Z6 cM Z2 (St q (Rlx 4 q ?_))))
 obtain rfl:=Oi h
 exact ao (rs1 q (bc q q gq cM q)) (aj (Zs _))
 refine Rcl 9 q ?_
 obtain⟨E,F,h⟩:=ac h
 refine wF Z4 (f64_c _ _ _ _ F) ⟨(aj (Zs _)),Zl,Zl,Zl,Zt⟩ Z3 (Rl 3 q (Al z64 q (sS Z6 s64 Z2 (St q (Rlc 10 q (Ci h q (λh=>?_) (λh=>?_)))))))
 refine Rcl 4 q (wF Z4 (f96_c _) ⟨(aj (Zs _)),Zt⟩ Z3 (sS Z6 cM Z2 (St q (Rlx 4 q ?_))))
 obtain rfl:=Oi h
 exact ao (rs1 q (bc q q gq cM q)) (aj (Zs _))
 refine Rcl 6 q (sS Z6 s64 Z2 (St q (Rll 5 q (wF Z4 (f97_c (aw.mk E.1 s0.r s0.acts s0.e)) ⟨(aj (Zs _)),Zt⟩ Z3 (sS Z6 cM Z2 (St q (Rlx 3 q ?_)))))))
 obtain rfl:=Oi h
 exact ao (rs1 q (bc q q gq cM q)) (aj (Zs _))

theorem f52_c(s0:aw)(x1:ap){r:aw}(h:f52 s0 x1=some r):Pu prog 52 [.ag (l5 s0), .ag (R45 x1)] (.ag (l5 r)):=by
 unfold f52 at h
 refine fI func52 λ_ _=>?_
 refine Rcl 2 q (Bx q q q (Bd q q (Zs _) q (Al mW q (Rll 8 q ?_))))
 replace h:=aE h
 obtain⟨c,h⟩:=h
 refine Zq (aB dI q q (bw c) (bv c)) q (Zq (cv (off:=14) (n:=16) (λj=> .n (s0.r.r j)) q q a2 q c) q (Rlc 3 q (Jn0 [(2, .pt 0 0),(4, .pt 1 0)] [.row 123 (([.l E45 s0.m.t.insns, .l bu s0.m.t.handlers, .l cg s0.m.t.loops, .l bX s0.m.t.selects, .l E96 s0.m.t.lists, .l bp s0.m.t.objs, .l bU s0.m.t.inits, .n s0.m.t.excs, .l E27 s0.m.t.tasks, .l bN s0.m.t.prots, .l co s0.m.t.checks, .l E42 s0.m.slots, .l E2 s0.m.in_, .l E2 s0.m.out]:List AV)++(aY 16 (λj=> .n (s0.r.r j))++([.n s0.r.pc, .n s0.r.exc, .n s0.r.defer, .l E58 s0.acts, .n s0.e]:List AV):List AV)), .row 123 [sN,sN,sN,sN,sN,sN,sN, .n 0,sN,sN,sN,sN,sN,sN, .n 0, .n 0, .n 0, .n 0, .n 0, .n 0, .n 0, .n 0, .n 0, .n 0, .n 0, .n 0, .n 0, .n 0, .n 0, .n 0, .n 0, .n 0, .n 0,sN, .n 0]] h (λk h=>?_) (λh=>?_))))
 refine Rcc 13 q (Ci h q (λh=>?_) (λh=>?_))
 refine Rcl 6 q (sS Z6 s3 Z2 (St q (Rll 5 q (sS Z6 cM Z2 (St q (Rlx 5 q ?_))))))
 obtain rfl:=Oi h
 exact ao (rs1 q (bc q q gq cM q)) (aj (Zs _))
 refine Jn1 (λf=> [(2, .pt 0 0),(3, .d (.pc (R45 x1))),(4, .pt 1 0),(5, .n (s0.r.r (Int.toNat x1.a))),(14, .d (D.i .u8 x1.op)),(22, .d (D.b f))]) (λ_=> [.row 123 (([.l E45 s0.m.t.insns, .l bu s0.m.t.handlers, .l cg s0.m.t.loops, .l bX s0.m.t.selects, .l E96 s0.m.t.lists, .l bp s0.m.t.objs, .l bU s0.m.t.inits, .n s0.m.t.excs, .l E27 s0.m.t.tasks, .l bN s0.m.t.prots, .l co s0.m.t.checks, .l E42 s0.m.slots, .l E2 s0.m.in_, .l E2 s0.m.out]:List AV)++(aY 16 (λj=> .n (s0.r.r j))++([.n s0.r.pc, .n s0.r.exc, .n s0.r.defer, .l E58 s0.acts, .n s0.e]:List AV):List AV)), .row 123 [sN,sN,sN,sN,sN,sN,sN, .n 0,sN,sN,sN,sN,sN,sN, .n 0, .n 0, .n 0, .n 0, .n 0, .n 0, .n 0, .n 0, .n 0, .n 0, .n 0, .n 0, .n 0, .n 0, .n 0, .n 0, .n 0, .n 0, .n 0,sN, .n 0]]) h (λ_ h=>?_) (λf h=>?_)
 refine Rcc 6 q (Ci h q (λh=>?_) (λh=>?_))
 exact Rcx 1 q (En1 h)
 exact Rcx 4 q (En1 h)
 refine Ci h q (λh=>?_) (λh=>?_)
 refine Rcl 7 q (Zq (y_eqb underlying4 q q) q (Rlc 2 q (Ci h q (λh=>?_) (λh=>?_))))
 refine Rcl 6 q (sS Z6 s3 Z2 (St q (Rll 5 q (sS Z6 cM Z2 (St q (Rlx 5 q ?_))))))
 obtain rfl:=Oi h
 exact ao (rs1 q (bc q q gq cM q)) (aj (Zs _))
 exact Rcx 2 q (En0 h)
 refine Rcc 6 q (Ci h q (λh=>?_) (λh=>?_))
 refine Rcc 6 q (Ln1 (λg=> [(2, .pt 0 0),(3, .d (.pc (R45 x1))),(4, .pt 1 0),(5, .n (s0.r.r (Int.toNat x1.a))),(6, .n g)]) (λ_=> [.row 123 (([.l E45 s0.m.t.insns, .l bu s0.m.t.handlers, .l cg s0.m.t.loops, .l bX s0.m.t.selects, .l E96 s0.m.t.lists, .l bp s0.m.t.objs, .l bU s0.m.t.inits, .n s0.m.t.excs, .l E27 s0.m.t.tasks, .l bN s0.m.t.prots, .l co s0.m.t.checks, .l E42 s0.m.slots, .l E2 s0.m.in_, .l E2 s0.m.out]:List AV)++(aY 16 (λj=> .n (s0.r.r j))++([.n s0.r.pc, .n s0.r.exc, .n s0.r.defer, .l E58 s0.acts, .n s0.e]:List AV):List AV)), .row 123 [sN,sN,sN,sN,sN,sN,sN, .n 0,sN,sN,sN,sN,sN,sN, .n 0, .n 0, .n 0, .n 0, .n 0, .n 0, .n 0, .n 0, .n 0, .n 0, .n 0, .n 0, .n 0, .n 0, .n 0, .n 0, .n 0, .n 0, .n 0,sN, .n 0]]) (f52_l1 s0 x1 k) h (λ_ h=>by rw[f52_l1] at h;cases h) (λn g h=>?_))
 rw[f52_l1] at h
 refine Rcc 9 q (Ci h q (λh=>?_) (λh=>?_))
 refine Rcl 14 q ?_
 refine Ag 7 51 58 (λ_=>Rn 7 7) (Rn 7 7) ?_
 refine Rlc 2 q (Ci h q (λh=>?_) (λh=>?_))
 refine Rcl 8 q (sS Z6 s3 Z2 (St q (Rll 5 q (sS Z6 cM Z2 (St q (Rlx 9 q ?_))))))
 obtain rfl:=Oi h
 exact ao (rs1 q (bc q q gq cM q)) (aj (Zs _))
 exact Rcx 8 q (Fn1 h)
 exact Rcx 5 q (En0 h)
 exact Rcx 2 q (En0 h)
 refine Rcl 3 q (wF Z4 (f97_c _) ⟨(aj (Zs _)),Zt⟩ Z3 (sS Z6 cM Z2 (St q (Rlx 3 q ?_))))
 obtain rfl:=Oi h
 exact ao (rs1 q (bc q q gq cM q)) (aj (Zs _))

theorem f103_c(t0:ai)(a:Int)(c2:Int){r:Int}(h:f103 t0 a c2=some r):Pu prog 103 [.ag (R38 t0), .i .i64 a, .i .i64 c2] (.i .i64 r):=by
 unfold f103 at h
 refine fI func103 λ_ _=>?_
 refine Rcl 2 q (Bd q q (Zs _) q (Rlc 3 q (Jn0 [] [] h (λe h=>?_) (λh=>?_))))
 refine Rcc 6 q (Ln1 (λc=> [(1, .n a),(2, .n c2),(3, .d (.pc (R38 t0))),(7, .n c)]) (λ_=> []) (f103_l1 t0 a c2 e) h (λ_ h=>by rw[f103_l1] at h;cases h) (λn c h=>?_))
 rw[f103_l1] at h
 refine Rcl 6 q (Zq (ab bu t0.handlers e29 q q Zl) q (Rl 2 q ?_))
 refine Ag 3 14 17 (λ_=>Rn 3 3) (Rn 3 3) ?_
 refine Rlc 2 q (Ci h q (λh=>?_) (λh=>?_))
 refine Rcl 9 q (Ix h e29 eg q Zl q q λf _ h=>(Rl 1 q (Al l9 q (sS Z6 pr Z2 (Rll 9 q ?_)))))
 refine Ag 5 29 34 (λ_=>Rn 5 5) (Rn 5 5) ?_
 refine Rl 1 q ?_
 apply WL.and 7 (t:=35) (d:=42)
 exact q
 intro g
 refine Rl 3 q ?_
 refine Og 3 38 41 (λ_=>Rn 3 3) (Rn 3 3) ?_
 exact Rn 1 5
 exact Rn 7 7
 refine Rlc 2 q (Ci h q (λh=>?_) (λh=>?_))
 exact Rcx 12 q (FA h)
 exact Rcx 8 q (WE.drop 0 (env':=[(1, .n a),(2, .n c2),(3, .d (.pc (R38 t0))),(7, .n (IntKind.i64.wrap (c+1)))]) Sb q q (Nat.zero_le _) (Fn1 h))
 exact Rcx 4 q (En0 h)
 exact Rcx 6 q (FA h)

theorem f60_c(t0:ai)(r1:aI)(c2:Int){r:aI×Int}(h:f60 t0 r1 c2=some r):Pu prog 60 [.ag (R38 t0), .ag (R41 r1), .i .i64 c2] (.tu [.ag (R41 r.1), .i .i64 r.2]):=by
 unfold f60 at h
 refine fI func60 λ_ _=>?_
 refine Rcl 2 q (Bd q q (Zs _) q (Bd q q (Zs _) q (Al z41 q (Rll 9 q ?_))))
 obtain⟨f,e,h⟩:=ac h
 refine wF Z4 (f103_c _ _ _ e) Lw Z3 (Rlc 10 q (Ci h q (λh=>?_) (λh=>?_)))
 refine Rcl 2 q (Zq (aa p41 z41 q q) q (sS Z6 s41 Z2 (St q (Rlx 5 q ?_))))
 obtain rfl:=Oi h
 exact ao (rs2 q (bc q q a41 s41 q) (ay q)) (aV ⟨(aj (Zs _)),Zl,Zt⟩)
 refine Rcl 7 q (Ix h e29 eg q Zl q q λa _ h=>(Rl 1 q (Al l9 q (sS Z6 pr Z2 (St q (Rll 9 q (Zq (aa p41 z41 q q) q (Al z41 q (sS Z6 s41 Z2 (St q (Rlc 2 q (Jn1 (λ_=> [(6, .pt 0 0),(10, .pt 2 0)]) (λc=> [.row 41 n19, .row 108 [.n a.from_, .n a.to, .n a.at_, .d (D.b a.clean)], .row 41 [.n 0, .n 0, .n 0, .n 0, .n 0, .n 0, .n 0, .n 0, .n 0, .n 0, .n 0, .n 0, .n 0, .n 0, .n 0, .n 0, .n a.at_, .n c2, .n c]]) h (λ_ h=>?_) (λc h=>?_)))))))))))))
 refine Rcc 6 q (Ci h q (λh=>?_) (λh=>?_))
 exact Rcl 5 q (sS Z6 s3 Z2 (St q (Rlx 1 q (En1 h))))
 exact Rcx 1 q (En1 h)
 refine Rcc 8 q (Ci h q (λh=>?_) (λh=>?_))
 refine Rcl 2 q (Zq (aa p41 z41 q q) q (sS Z6 s41 Z2 (St q (Rlx 5 q ?_))))
 obtain rfl:=Oi h
 exact ao (rs2 q (bc q q a41 s41 q) (ay q)) (aV ⟨(aj (Zs _)),Zl,Zt⟩)
 refine Rcl 5 q (sS Z6 s41 Z2 (St q (Rlx 4 q ?_)))
 obtain rfl:=Oi h
 exact ao (rs2 q (bc q q a41 s41 q) (ay q)) (aV ⟨(aj (Zs _)),Zl,Zt⟩)

theorem f57_c(t0:ai)(r1:aI)(n2:Int){r:aI×(List Act)×Int}(h:f57 t0 r1 n2=some r):Pu prog 57 [.ag (R38 t0), .ag (R41 r1), .i .i64 n2] (.tu [.ag (R41 r.1), .sl (List.map E58 r.2.1), .i .i64 r.2.2]):=by
 unfold f57 at h
 refine fI func57 λ_ _=>?_
 refine Rcl 2 q (Bd q q (Zs _) q (Bd q q (Zs _) q (Al z41 q (Rll 9 q ?_))))
 obtain⟨c,a,h⟩:=ac h
 refine wF Z4 (f60_c _ _ _ a) Lw Z3 (Rl 3 q (Al z41 q (sS Z6 s41 Z2 (St q (Rlc 10 q (Ci h q (λh=>?_) (λh=>?_)))))))
 refine Rcl 2 q (Zq (aa p41 z41 q q) q (Rl 1 q (sS Z6 s41 Z2 (St q (Rlx 6 q ?_)))))
 obtain rfl:=Oi h
 exact ao (rs3 q (bc q q a41 s41 q) (ay q) (ay q)) (aV ⟨(aj (Zs _)),Le.nil,Zl,Zt⟩)
 refine Rcl 6 q (Zq (aa p58 z58 q q) q (WL.s ((NewOs.b (ae l50 z58 q dC dC q q q dC)).does) (Zw q) q q (sS Z6 s41 Z2 (St q (Rlx 5 q ?_)))))
 refine WE.freezeX [7,25] [] 2 _ q (am eE [(Act.mk 0 0 5 n2 0 0)]) ⟨q,q,Zt⟩ Zt ?_
 obtain rfl:=Oi h
 exact ao (rs3 q (bc q q a41 s41 q) (ay q) (ay q)) (aV ⟨(aj (Zs _)),Zl,Zl,Zt⟩)

theorem f53_c(s0:aw)(x1:ap){r:aw}(h:f53 s0 x1=some r):Pu prog 53 [.ag (l5 s0), .ag (R45 x1)] (.ag (l5 r)):=by
 unfold f53 at h
 refine fI func53 λ_ _=>?_
 refine Rcl 2 q (Bx q q q (Bd q q (Zs _) q (Al mW q (Rll 8 q ?_))))
 replace h:=aE h
 obtain⟨a,h⟩:=h
 refine Zq (aB dI q q (bw a) (bv a)) q (Zq (cv (off:=14) (n:=16) (λj=> .n (s0.r.r j)) q q a2 q a) q (Rlc 8 q (Jn4 (λw _ _ _=> [(2, .pt 0 0),(4, .pt 1 0),(6, .n w)]) (λ_ c f g=> [.row 123 (([.l E45 s0.m.t.insns, .l bu s0.m.t.handlers, .l cg s0.m.t.loops, .l bX s0.m.t.selects, .l E96 s0.m.t.lists, .l bp s0.m.t.objs, .l bU s0.m.t.inits, .n s0.m.t.excs, .l E27 s0.m.t.tasks, .l bN s0.m.t.prots, .l co s0.m.t.checks, .l E42 s0.m.slots, .l E2 c, .l E2 s0.m.out]:List AV)++(aY 16 (λj=> .n (f j))++([.n s0.r.pc, .n s0.r.exc, .n s0.r.defer, .l E58 g, .n s0.e]:List AV):List AV)), .row 123 [sN,sN,sN,sN,sN,sN,sN, .n 0,sN,sN,sN,sN,sN,sN, .n 0, .n 0, .n 0, .n 0, .n 0, .n 0, .n 0, .n 0, .n 0, .n 0, .n 0, .n 0, .n 0, .n 0, .n 0, .n 0, .n 0, .n 0, .n 0,sN, .n 0]]) h (λ_ h=>?_) (λw c f g h=>?_))))
 refine Rcc 13 q (Ci h q (λh=>?_) (λh=>?_))
 refine Rcl 7 q ?_
 refine Og 5 21 26 (λ_=>Rn 5 5) (Rn 5 5) ?_
 refine Rlc 2 q (Ci h q (λh=>?_) (λh=>?_))
 exact Rcx 4 q (En4 h)
 exact Rcx 2 q (En4 h)
 refine Rcc 6 q (Ci h q (λh=>?_) (λh=>?_))
 refine Rcc 6 q (Ci h q (λh=>?_) (λh=>?_))
 exact Rcx 4 q (En4 h)
 exact Rcx 2 q (En4 h)
 refine Rcc 6 q (Ci h q (λh=>?_) (λh=>?_))
 exact Rcx 6 q (En4 h)
 refine Rcc 6 q (Ci h q (λh=>?_) (λh=>?_))
 refine Rcl 6 q ?_
 refine Og 7 39 46 (λ_=>Rn 7 7) (Rn 7 7) ?_
 refine Rlc 2 q (Ci h q (λh=>?_) (λh=>?_))
 refine Rcl 4 q (wF Z4 (f96_c _) ⟨(aj (Zs _)),Zt⟩ Z3 (sS Z6 cM Z2 (St q (Rlx 6 q ?_))))
 obtain rfl:=Oi h
 exact ao (rs1 q (bc q q gq cM q)) (aj (Zs _))
 exact Rcx 7 q (En4 h)
 refine Rcc 6 q (Ci h q (λh=>?_) (λh=>?_))
 refine Rcl 6 q ?_
 refine Og 7 55 62 (λ_=>Rn 7 7) (Rn 7 7) ?_
 refine Rlc 2 q (Ci h q (λh=>?_) (λh=>?_))
 refine Rcl 4 q (wF Z4 (f96_c _) ⟨(aj (Zs _)),Zt⟩ Z3 (sS Z6 cM Z2 (St q (Rlx 6 q ?_))))
 obtain rfl:=Oi h
 exact ao (rs1 q (bc q q gq cM q)) (aj (Zs _))
 refine Rcc 8 q (Ci h q (λh=>?_) (λh=>?_))
 refine Rcl 8 q ?_
 obtain⟨F,A,h⟩:=ac h
 refine wF Z4 (f60_c _ _ _ A) ⟨(aj (Zs _)),(aj (Zs _)),Zl,Zt⟩ Z3 (Rl 4 q (sS Z6 s41 Z2 (St q (Rl 1 q (sS Z6 s3 Z2 (St q (Rll 5 q (sS Z6 cM Z2 (St q (Rlx 5 q ?_))))))))))
 obtain rfl:=Oi h
 exact ao (rs1 q (bc q q gq cM q)) (aj (Zs _))
 exact Rcx 2 q (En4 h)
 refine Rcc 6 q (Ci h q (λh=>?_) (λh=>?_))
 refine Rcl 5 q (Zq (ab E2 s0.m.in_ e42 q q Zl) q (Rlc 3 q (Ci h q (λh=>?_) (λh=>?_))))
 exact Rcx 4 q (En4 h)
 refine Rcc 1 q ?_
 obtain⟨k,y,h⟩:=ac h
 replace h:=aE h
 obtain⟨p,h⟩:=h
 apply RT [_,_,_,_,_,_,_,_,_,_, .u] [10] [[.row 123 (([.l E45 s0.m.t.insns, .l bu s0.m.t.handlers, .l cg s0.m.t.loops, .l bX s0.m.t.selects, .l E96 s0.m.t.lists, .l bp s0.m.t.objs, .l bU s0.m.t.inits, .n s0.m.t.excs, .l E27 s0.m.t.tasks, .l bN s0.m.t.prots, .l co s0.m.t.checks, .l E42 s0.m.slots, .l E2 s0.m.in_, .l E2 s0.m.out]:List AV)++(aY 16 (λj=> .n ((bz s0.r.r (Int.toNat x1.d) k) j))++([.n s0.r.pc, .n s0.r.exc, .n s0.r.defer, .l E58 s0.acts, .n s0.e]:List AV):List AV)), .row 123 [sN,sN,sN,sN,sN,sN,sN, .n 0,sN,sN,sN,sN,sN,sN, .n 0, .n 0, .n 0, .n 0, .n 0, .n 0, .n 0, .n 0, .n 0, .n 0, .n 0, .n 0, .n 0, .n 0, .n 0, .n 0, .n 0, .n 0, .n 0,sN, .n 0]]] [p01 3,p10 0,p01 2,p10 2,p10 3,p10 4,p10 5,p01 2,p10 7,p20 8 1,p20 9 6] kR kR q q
 refine Y5 ?_
 refine zo (λ_=>Zq (ah e42 q Zl q (af y) (av dJ y) q) q (Zd q q q)) ?_
 refine Y3 ?_
 refine zo (λ_=>Zq (aB dI q q (bw p) (bv p)) q (Zd q q q)) ?_
 exact zo (λ_=>WL.s0 (cZ (off:=14) (n:=16) (cs':=(([.l E45 s0.m.t.insns, .l bu s0.m.t.handlers, .l cg s0.m.t.loops, .l bX s0.m.t.selects, .l E96 s0.m.t.lists, .l bp s0.m.t.objs, .l bU s0.m.t.inits, .n s0.m.t.excs, .l E27 s0.m.t.tasks, .l bN s0.m.t.prots, .l co s0.m.t.checks, .l E42 s0.m.slots, .l E2 s0.m.in_, .l E2 s0.m.out]:List AV)++(aY 16 (λj=> .n ((bz s0.r.r (Int.toNat x1.d) k) j))++([.n s0.r.pc, .n s0.r.exc, .n s0.r.defer, .l E58 s0.acts, .n s0.e]:List AV):List AV))) (λx=> .n x) s0.r.r k q q q (eT q) s2 q q p q) (Zw q) q (aT q q)) Zt
 refine Rxl 6 q (Ix h e42 dJ q Zl q q λB _ h=>(Rl 1 q (Zq (aa p58 z58 q q) q (WL.s ((NewOs.b (ae l50 z58 q dC dC q q q dC)).does) (Zw q) q q (Rl 1 q (WL.s0 (dG q q q (eS q) s50 q) (Zw q) q (St q (Rll 6 q ?_))))))))
 replace h:=aE h
 obtain⟨C,h⟩:=h
 refine Zq (ja E2 s0.m.in_ (l:=1) (h:=(List.length s0.m.in_:Int)) e42 q Zl ⟨_,q⟩ q C (λ_=>q)) q (Rl 2 q (sS Z6 s42 Z2 (St q (Rlx 2 q ?_))))
 exact WE.freezeX [104] [(0,33)] 2 _ q (am eE [(Act.mk 0 0 2 B 0 0)]) ⟨q,Zt⟩ ⟨_,_,q,q,Zt⟩ (WE.drop 2 (env':=[(2, .pt 0 0),(4, .pt 1 0),(6, .n 0)]) Sb q q (Nat.zero_le _) (En4 h))
 exact Rcx 2 q (En4 h)
 refine Rcc 7 q (Ci h q (λh=>?_) (λh=>?_))
 refine Rcl 8 q ?_
 obtain⟨G,E,h⟩:=ac h
 refine wF Z4 (f57_c _ _ _ E) ⟨(aj (Zs _)),(aj (Zs _)),Zl,Zt⟩ Z3 (Rl 5 q (sS Z6 s41 Z2 (St q (Rl 1 q (sS Z6 s50 Z2 (St q (Rl 1 q (sS Z6 s3 Z2 (St q (Rll 5 q (sS Z6 cM Z2 (St q (Rlx 4 q ?_)))))))))))))
 obtain rfl:=Oi h
 exact ao (rs1 q (bc q q gq cM q)) (aj (Zs _))
 refine Rcl 5 q (wF Z4 (f97_c (aw.mk (Mem.mk s0.m.t s0.m.slots c s0.m.out) (aI.mk f s0.r.pc s0.r.exc s0.r.defer) g s0.e)) ⟨(aj (Zs _)),Zt⟩ Z3 (sS Z6 cM Z2 (St q (Rlx 3 q ?_))))
 obtain rfl:=Oi h
 exact ao (rs1 q (bc q q gq cM q)) (aj (Zs _))

theorem f143_c(a0:Int)(b1:Int){r:Int}(h:f143 a0 b1=some r):Pu prog 143 [.i .i64 a0, .i .i64 b1] (.i .i64 r):=by
 unfold f143 at h
 refine fI func143 λ_ _=>?_
 refine Rcl 9 q ?_
 replace h:=aE h
 obtain⟨c,h⟩:=h
 refine Zq (nE q q (lc c)) q (Rlc 3 q (Jn1 (λa=> [(5, .n a)]) (λ_=> []) h (λ_ h=>?_) (λa h=>?_)))
 refine Rcl 5 q ?_
 apply WL.and 6 (t:=11) (d:=17)
 exact q
 intro e
 exact Rl 4 q (Zy (y_neb underlying4 q q) q q q (Rl 1 q (WL.nil ⟨q,[_,_,_,_,_,_],q,q,q⟩)))
 exact Rn 6 6
 refine Rlc 2 q (Ci h q (λh=>?_) (λh=>?_))
 exact Rcx 6 q (En1 h)
 exact Rcx 1 q (En1 h)
 exact Rcx 7 q (FA h)

theorem f144_c(b0:Bool):Pu prog 144 [.b b0] (.i .i64 (f144 b0)):=by
 generalize h:f144 b0=r
 unfold f144 at h
 refine fI func144 λ_ _=>?_
 refine Rcc 11 q (Ci h q (λh=>?_) (λh=>?_))
 exact Rcx 7 q (FB h)
 exact Rcx 8 q (FB h)

theorem f98_c(a:Int)(a1:Int)(b2:Int){r:Int×Bool}(h:f98 a a1 b2=some r):Pu prog 98 [.i .u8 a, .i .i64 a1, .i .i64 b2] (.tu [.i .i64 r.1, .b r.2]):=by
 unfold f98 at h
 refine fI func98 λ_ _=>?_
 refine Rcc 19 q (Ci h q (λh=>?_) (λh=>?_))
 exact Rcx 12 q (FA h)
 refine Rcc 6 q (Ci h q (λh=>?_) (λh=>?_))
 exact Rcx 12 q (FA h)
 refine Rcc 6 q (Ci h q (λh=>?_) (λh=>?_))
 exact Rcx 12 q (FA h)
 refine Jn1 (λc=> [(0, .d (D.i .u8 a)),(1, .n a1),(2, .n b2),(8, .d (D.i .u8 a)),(24, .d (D.b c))]) (λ_=> []) h (λ_ h=>?_) (λc h=>?_)
 refine Rcc 6 q (Ci h q (λh=>?_) (λh=>?_))
 exact Rcx 1 q (En1 h)
 refine Rcc 6 q (Ci h q (λh=>?_) (λh=>?_))
 exact Rcx 1 q (En1 h)
 exact Rcx 4 q (En1 h)
 refine Ci h q (λh=>?_) (λh=>?_)
 refine Rcc 7 q (Ci h q (λh=>?_) (λh=>?_))
 exact Rcx 10 q (FA h)
 refine Rcl 8 q ?_
 refine Ag 3 32 35 (λ_=>Rn 3 3) (Rn 3 3) ?_
 refine Rlc 2 q (Ci h q (λh=>?_) (λh=>?_))
 exact Rcx 12 q (FA h)
 refine Rcc 9 q (Ci h q (λh=>?_) (λh=>?_))
 exact Rcx 10 q (FA h)
 refine Rcc 9 q (Ci h q (λh=>?_) (λh=>?_))
 refine Rcl 4 q ?_
 replace h:=aE h
 obtain⟨e,h⟩:=h
 exact Zq (uG q q (lc e) q) q (Rlx 8 q (FA h))
 refine Rcc 9 q (Ci h q (λh=>?_) (λh=>?_))
 refine Rcl 4 q ?_
 replace h:=aE h
 obtain⟨f,h⟩:=h
 exact Zq (nE q q (lc f)) q (Rlx 8 q (FA h))
 refine Rcl 6 q ?_
 obtain⟨j,g,h⟩:=ac h
 exact wF Z4 (f143_c _ _ g) Lw Z3 (Rlx 7 q (FA h))
 refine Rcc 6 q (Ci h q (λh=>?_) (λh=>?_))
 exact Rcl 5 q (wF Z4 (f144_c _) Lw Z3 (Rlx 7 q (FA h)))
 refine Rcc 6 q (Ci h q (λh=>?_) (λh=>?_))
 exact Rcl 5 q (wF Z4 (f144_c _) Lw Z3 (Rlx 7 q (FA h)))
 refine Rcc 6 q (Ci h q (λh=>?_) (λh=>?_))
 exact Rcl 5 q (wF Z4 (f144_c _) Lw Z3 (Rlx 7 q (FA h)))
 refine Rcc 6 q (Ci h q (λh=>?_) (λh=>?_))
 exact Rcl 5 q (wF Z4 (f144_c _) Lw Z3 (Rlx 7 q (FA h)))
 refine Rcc 6 q (Ci h q (λh=>?_) (λh=>?_))
 exact Rcl 5 q (wF Z4 (f144_c _) Lw Z3 (Rlx 7 q (FA h)))
 refine Rcc 6 q (Ci h q (λh=>?_) (λh=>?_))
 exact Rcl 5 q (wF Z4 (f144_c _) Lw Z3 (Rlx 7 q (FA h)))
 refine Rcc 6 q (Ci h q (λh=>?_) (λh=>?_))
 exact Rcl 4 q (Zq (rU q q q) q (Rlx 7 q (FA h)))
 refine Rcc 6 q (Ci h q (λh=>?_) (λh=>?_))
 exact Rcl 4 q (Zq (tE q q q) q (Rlx 7 q (FA h)))
 refine Rcc 6 q (Ci h q (λh=>?_) (λh=>?_))
 exact Rcl 4 q (Zq (rD q q q) q (Rlx 7 q (FA h)))
 refine Rcc 6 q (Ci h q (λh=>?_) (λh=>?_))
 exact Rcx 11 q (FA h)
 refine Rcc 6 q (Ci h q (λh=>?_) (λh=>?_))
 refine Rcc 7 q (Ci h q (λh=>?_) (λh=>?_))
 exact Rcx 12 q (FA h)
 exact Rcx 12 q (FA h)
 refine Rcc 6 q (Ci h q (λh=>?_) (λh=>?_))
 exact Rcx 11 q (FA h)
 exact Rcx 10 q (FA h)

theorem f99_c(o0:Int){r:Int}(h:f99 o0=some r):Pu prog 99 [.i .u8 o0] (.i .u8 r):=by
 unfold f99 at h
 refine fI func99 λ_ _=>?_
 refine Rcl 7 q (WL.s ((NewOs.b (ae l211 z43 q dC dC q q q dC)).does) (Zw q) q q (Rll 5 q (WL.s ((NewOs.b (ae l212 z146 q dC dC q q q dC)).does) (Zw q) q q (Rlc 3 q (Jn0 [] [.os 43 1 0 (eM E43 [9,10,11,12,13,14,15,16,17,18,19,20,21,22,23,24,25,26]), .os 146 1 0 (eM E146 [1,2,3,4,5,6,7,8,9,10,11,12,13,14,15,16,17,18])] h (λf h=>?_) (λh=>?_))))))
 refine Rcc 6 q (Ln1 (λa=> [(0, .d (D.i .u8 o0)),(3, .os 0 0),(4, .os 1 0),(5, .n a)]) (λ_=> [.os 43 1 0 (eM E43 [9,10,11,12,13,14,15,16,17,18,19,20,21,22,23,24,25,26]), .os 146 1 0 (eM E146 [1,2,3,4,5,6,7,8,9,10,11,12,13,14,15,16,17,18])]) (f99_l1 o0 f) h (λ_ h=>by rw[f99_l1] at h;cases h) (λn a h=>?_))
 rw[f99_l1] at h
 refine Rcl 5 q (Zq (fp (ba E43) [9,10,11,12,13,14,15,16,17,18,19,20,21,22,23,24,25,26] e211 q q q) q (Rlc 3 q (Ci h q (λh=>?_) (λh=>?_))))
 refine Rcl 8 q ?_
 obtain⟨g,c,h⟩:=ac h
 refine Zq (kI e211 q q q c) q (Zq (iF (fo:=0) q q q a43 (λ_=>q) c q) q (Rlc 4 q (Ci h q (λh=>?_) (λh=>?_))))
 refine Rcl 4 q ?_
 obtain⟨j,e,h⟩:=ac h
 exact Zq (kI e212 q q q e) q (Zq (iF (fo:=0) q q q a146 (λ_=>q) e q) q (Rlx 9 q (FA h)))
 exact Rcx 8 q (Fn1 h)
 exact Rcx 4 q (En0 h)
 exact Rcx 6 q (FA h)

end Go.Proofs.YtkbahggepncliaaGreatDoor
