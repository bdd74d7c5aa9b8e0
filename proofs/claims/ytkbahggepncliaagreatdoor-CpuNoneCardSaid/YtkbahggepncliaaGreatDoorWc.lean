/- The walks of functions. -/
import Derived.Test.YtkbahggepncliaaGreatDoorX
import Derived.Test.YtkbahggepncliaaGreatDoorWb
set_option linter.unusedVariables false
set_option linter.unusedSimpArgs false
set_option linter.unusedSectionVars false
set_option linter.unnecessarySimpa false
set_option maxHeartbeats 4000000
set_option maxRecDepth 100000
namespace Go.Proofs.YtkbahggepncliaaGreatDoor
open Go Go.Sk

theorem f7_c (r0 : Regs) (o1 : Int) (k2 : Int) (v3 : Int) {r : Bool} (h : f7 r0 o1 k2 v3 = some r) : Pu Tryz.prog 7 [.ag (R41 r0),.i .i64 o1,.i .i64 k2,.i .i64 v3] (.b r):=by
 unfold f7 at h
 refine fn_intro Tryz.func7 (by kernel_rfl) q q q (fun φφ ww => ?_)
 refine Rcl 2 q (Bd q q (Zs _) q (Rll 5 q (Al z90 q (Rlc 3 q (WC.nil_cell 0 4 42 1 q q (Gh.wc (gh_push_fam 2 1) (WC.nil_cell 0 6 2 1 q q (WC.weak (st':=[.row 90 [sN,sN,sN,.n 0,.os 1 0,sN,.os 3 0],.os 42 1 0 (famE 2 0 (List.length ([] : List (List Int)))),.fam 2 1 0 (famM E2 ([] : List (List Int))),.os 2 1 0 (eM E2 ([] : List Int))]) (by exact Tv) (Rcl 1 q (WL.s (((NewOs.b (n_buildSlice l91 z46 q (by decide) (by decide) q q q (by decide)))).does) (Zw q) q q (Rlc 3 q ?_)))))))))))
 replace h:=letkS h
 obtain ⟨k180,hk180,h⟩:=h
 refine wc_cut (fun env' st' => ∃ (l151 : List (List Int)),∃ (ver152 : Nat),∃ (l153 : List Int),∃ (ver154 : Nat),∃ (c05155 : List Int),∃ (c50156 : Nat → Int),∃ (c516157 : Int),∃ (c517158 : Int),∃ (c518159 : Int),∃ (c60160 : Nat → Int),∃ (c616161 : Int),∃ (c617162 : Int),∃ (c618163 : Int),∃ (c70164 : Nat → Int),∃ (c716165 : Int),∃ (c717166 : Int),∃ (c718167 : Int),∃ (c80168 : Nat → Int),∃ (c816169 : Int),∃ (c817170 : Int),∃ (c818171 : Int),∃ (c90172 : Nat → Int),∃ (c916173 : Int),∃ (c917174 : Int),∃ (c918175 : Int),∃ (c100176 : Nat → Int),∃ (c1016177 : Int),∃ (c1017178 : Int),∃ (c1018179 : Int),k180 l151 l153 c05155 c50156 c516157 c517158 c518159 c60160 c616161 c617162 c618163 c70164 c716165 c717166 c718167 c80168 c816169 c817170 c818171 c90172 c916173 c917174 c918175 c100176 c1016177 c1017178 c1018179 = some r ∧ Sub [] env' ∧ SLe st' [.row 90 [.l E45 [],.l E108 [],.l E101 [],.n 0,.os 1 0,.l E2 c05155,.os 3 ver154],.os 42 1 0 (famE 2 ver152 (List.length l151)),.fam 2 1 ver152 (famM E2 l151),.os 2 1 ver154 (eM E2 l153),.os 46 1 0 [[.d (.v (.pointer none))],[.pt 0 0]],.row 41 (vecA 16 (fun j => .n (c50156 j)) ++ ([.n c516157,.n c517158,.n c518159] : List AV)),.row 41 (vecA 16 (fun j => .n (c60160 j)) ++ ([.n c616161,.n c617162,.n c618163] : List AV)),.row 41 (vecA 16 (fun j => .n (c70164 j)) ++ ([.n c716165,.n c717166,.n c718167] : List AV)),.row 41 (vecA 16 (fun j => .n (c80168 j)) ++ ([.n c816169,.n c817170,.n c818171] : List AV)),.row 41 (vecA 16 (fun j => .n (c90172 j)) ++ ([.n c916173,.n c917174,.n c918175] : List AV)),.row 41 (vecA 16 (fun j => .n (c100176 j)) ++ ([.n c1016177,.n c1017178,.n c1018179] : List AV))]) ?_ ?_
 refine Rcc 6 q (wc_unroll 2 (Rcl 5 q (Zq (y_len_os e91 q q q) q (Rlc 3 q (wc_true q (Rcc 5 q ?_))))))
 obtain ⟨r181,hr181,h⟩:=bindS h
 apply RT [_,_,_,_,_,_,_,_,_,_,_,.u,_,_] [10,11] [[.row 90 [sN,sN,sN,.n 0,.os 1 0,sN,.os 3 0],.os 42 1 0 (famE 2 0 (List.length ([] : List (List Int)))),.fam 2 1 0 (famM E2 ([] : List (List Int))),.os 2 1 0 (eM E2 ([] : List Int)),.os 46 1 0 [[.d (.v (.pointer none))],[.pt 0 0]],.row 41 n19],[.row 90 [sN,sN,sN,.n 0,.os 1 0,sN,.os 3 0],.os 42 1 0 (famE 2 0 (List.length ([] : List (List Int)))),.fam 2 1 0 (famM E2 ([] : List (List Int))),.os 2 1 0 (eM E2 ([] : List Int)),.os 46 1 0 [[.d (.v (.pointer none))],[.pt 0 0]],.row 41 (vecA 16 (fun j => .n (r181.1.r j)) ++ ([.n r181.1.pc,.n r181.1.exc,.n r181.1.defer] : List AV))]] [([],[10],[0,1]),([],[11],[0,1]),([0,1],[],[0,1]),([2],[],[0,1]),([],[4],[0,1]),([3,4],[],[0,1]),([5],[],[0,1]),([6],[],[0,1]),([6],[],[0,1,2]),([6],[],[0,1,2]),([],[],[0]),([10,7],[],[1]),([8],[],[2]),([9],[],[2])] (by kernel_rfl) (by kernel_rfl) q q
 refine ⟨?_,?_,?_,?_,?_,?_,?_,?_,?_,?_,?_,?_,?_,?_,Zt⟩
 exact ⟨O2 q (fun _ => q) q q,O2 q (fun _ => q) q q,Zt⟩
 exact ⟨O2 q (fun _ => q) q q,O2 q (fun _ => q) q q,Zt⟩
 refine ⟨fun F => ?_,fun F => ?_,Zt⟩
 exact Zq (y_indexAddr_os e91 q q q (by decide) (by decide)) q (Zd q q q)
 exact Zq (y_indexAddr_os e91 q q q (by decide) (by decide)) q (Zd q q q)
 refine ⟨fun F => ?_,fun F => ?_,Zt⟩
 exact Zq (y_load_pe q q a46 q) q (Zd q q q)
 exact Zq (y_load_pe q q a46 q) q (Zd q q q)
 exact ⟨O2 q (fun _ => q) q q,O2 q (fun _ => q) q q,Zt⟩
 refine ⟨fun F => ?_,fun F => ?_,Zt⟩
 refine WL.wing [] q q q q (f11z_c _ hr181) ⟨Zl,Zl,Zt⟩ q (by decide) q Zt q q (Zw q) q q (fun r' new hS => ?_)
 obtain ⟨rfl,rfl⟩:=hS
 refine ⟨_,_,q,q,q,q,?_⟩
 exact Zd q q q
 refine WL.wing [] q q q q (f11z_c _ hr181) ⟨Zl,Zl,Zt⟩ q (by decide) q Zt q q (Zw q) q q (fun r' new hS => ?_)
 obtain ⟨rfl,rfl⟩:=hS
 refine ⟨_,_,q,q,q,q,?_⟩
 exact Zd q q q
 exact ⟨O2 q (fun _ => q) q q,O2 q (fun _ => q) q q,Zt⟩
 exact ⟨O2 q (fun _ => q) q q,O2 q (fun _ => q) q q,Zt⟩
 exact ⟨O2 q (fun _ => q) q q,O2 q (fun _ => q) q q,O2 q (fun _ => q) q q,Zt⟩
 exact ⟨O2 q (fun _ => q) q q,O2 q (fun _ => q) q q,O2 q (fun _ => q) q q,Zt⟩
 refine ⟨fun F => ?_,Zt⟩
 exact Al z41 q (Zd q q q)
 refine ⟨fun F => ?_,Zt⟩
 exact WL.s0 (d_store q q q q q q s41 q q) (Zw q) q (WL.done0 q q)
 exact O1 q (fun _ => q) q q
 exact O1 q (fun _ => q) q q
 refine Rxc 2 q ?_
 obtain ⟨r183,hr183,h⟩:=bindS h
 apply RT [_,_,_,_,_,_,_,_,_,_,_,_,.u,_,_] [11,12] [[.row 90 [sN,sN,sN,.n 0,.os 1 0,sN,.os 3 0],.os 42 1 0 (famE 2 0 (List.length ([] : List (List Int)))),.fam 2 1 0 (famM E2 ([] : List (List Int))),.os 2 1 0 (eM E2 ([] : List Int)),.os 46 1 0 [[.d (.v (.pointer none))],[.pt 0 0]],.row 41 (vecA 16 (fun j => .n (r181.1.r j)) ++ ([.n r181.1.pc,.n r181.1.exc,.n r181.1.defer] : List AV)),.row 41 n19],[.row 90 [sN,sN,sN,.n 0,.os 1 0,sN,.os 3 0],.os 42 1 0 (famE 2 0 (List.length ([] : List (List Int)))),.fam 2 1 0 (famM E2 ([] : List (List Int))),.os 2 1 0 (eM E2 ([] : List Int)),.os 46 1 0 [[.d (.v (.pointer none))],[.pt 0 0]],.row 41 (vecA 16 (fun j => .n (r181.1.r j)) ++ ([.n r181.1.pc,.n r181.1.exc,.n r181.1.defer] : List AV)),.row 41 (vecA 16 (fun j => .n (r183.1.r j)) ++ ([.n r183.1.pc,.n r183.1.exc,.n r183.1.defer] : List AV))]] [([],[10],[0,1]),([],[11],[0,1]),([0,1],[],[0,1]),([2],[],[0,1]),([],[4],[0,1]),([],[3],[0,1]),([3,4,5],[],[0,1]),([6],[],[0,1]),([7],[],[0,1]),([7],[],[0,1,2]),([7],[],[0,1,2]),([],[],[0]),([11,8],[],[1]),([9],[],[2]),([10],[],[2])] (by kernel_rfl) (by kernel_rfl) q q
 refine ⟨?_,?_,?_,?_,?_,?_,?_,?_,?_,?_,?_,?_,?_,?_,?_,Zt⟩
 exact ⟨O2 q (fun _ => q) q q,O2 q (fun _ => q) q q,Zt⟩
 exact ⟨O2 q (fun _ => q) q q,O2 q (fun _ => q) q q,Zt⟩
 refine ⟨fun F => ?_,fun F => ?_,Zt⟩
 exact Zq (y_indexAddr_os e91 q q q (by decide) (by decide)) q (Zd q q q)
 exact Zq (y_indexAddr_os e91 q q q (by decide) (by decide)) q (Zd q q q)
 refine ⟨fun F => ?_,fun F => ?_,Zt⟩
 exact Zq (y_load_pe q q a46 q) q (Zd q q q)
 exact Zq (y_load_pe q q a46 q) q (Zd q q q)
 exact ⟨O2 q (fun _ => q) q q,O2 q (fun _ => q) q q,Zt⟩
 exact ⟨O2 q (fun _ => q) q q,O2 q (fun _ => q) q q,Zt⟩
 refine ⟨fun F => ?_,fun F => ?_,Zt⟩
 refine WL.wing [] q q q q (f20z_c _ _ hr183) ⟨Zl,Zl,Zl,Zt⟩ q (by decide) q Zt q q (Zw q) q q (fun r' new hS => ?_)
 obtain ⟨rfl,rfl⟩:=hS
 refine ⟨_,_,q,q,q,q,?_⟩
 exact Zd q q q
 refine WL.wing [] q q q q (f20z_c _ _ hr183) ⟨Zl,Zl,Zl,Zt⟩ q (by decide) q Zt q q (Zw q) q q (fun r' new hS => ?_)
 obtain ⟨rfl,rfl⟩:=hS
 refine ⟨_,_,q,q,q,q,?_⟩
 exact Zd q q q
 exact ⟨O2 q (fun _ => q) q q,O2 q (fun _ => q) q q,Zt⟩
 exact ⟨O2 q (fun _ => q) q q,O2 q (fun _ => q) q q,Zt⟩
 exact ⟨O2 q (fun _ => q) q q,O2 q (fun _ => q) q q,O2 q (fun _ => q) q q,Zt⟩
 exact ⟨O2 q (fun _ => q) q q,O2 q (fun _ => q) q q,O2 q (fun _ => q) q q,Zt⟩
 refine ⟨fun F => ?_,Zt⟩
 exact Al z41 q (Zd q q q)
 refine ⟨fun F => ?_,Zt⟩
 exact WL.s0 (d_store q q q q q q s41 q q) (Zw q) q (WL.done0 q q)
 exact O1 q (fun _ => q) q q
 exact O1 q (fun _ => q) q q
 refine Rxc 2 q ?_
 obtain ⟨r185,hr185,h⟩:=bindS h
 apply RT [_,_,_,_,_,_,_,_,_,_,_,.u,_] [10,11] [[.row 90 [sN,sN,sN,.n 0,.os 1 0,sN,.os 3 0],.os 42 1 0 (famE 2 0 (List.length ([] : List (List Int)))),.fam 2 1 0 (famM E2 ([] : List (List Int))),.os 2 1 0 (eM E2 ([] : List Int)),.os 46 1 0 [[.d (.v (.pointer none))],[.pt 0 0]],.row 41 (vecA 16 (fun j => .n (r181.1.r j)) ++ ([.n r181.1.pc,.n r181.1.exc,.n r181.1.defer] : List AV)),.row 41 (vecA 16 (fun j => .n (r183.1.r j)) ++ ([.n r183.1.pc,.n r183.1.exc,.n r183.1.defer] : List AV)),.row 41 n19],[.row 90 [sN,sN,sN,.n 0,.os 1 0,sN,.os 3 0],.os 42 1 0 (famE 2 0 (List.length ([] : List (List Int)))),.fam 2 1 0 (famM E2 ([] : List (List Int))),.os 2 1 0 (eM E2 ([] : List Int)),.os 46 1 0 [[.d (.v (.pointer none))],[.pt 0 0]],.row 41 (vecA 16 (fun j => .n (r181.1.r j)) ++ ([.n r181.1.pc,.n r181.1.exc,.n r181.1.defer] : List AV)),.row 41 (vecA 16 (fun j => .n (r183.1.r j)) ++ ([.n r183.1.pc,.n r183.1.exc,.n r183.1.defer] : List AV)),.row 41 (vecA 16 (fun j => .n (r185.1.r j)) ++ ([.n r185.1.pc,.n r185.1.exc,.n r185.1.defer] : List AV))]] [([],[10],[0,1]),([],[11],[0,1]),([0,1],[],[0,1]),([2],[],[0,1]),([],[4],[0,1]),([],[3],[0,1]),([3,4,5],[],[0,1]),([6],[],[0,1]),([7],[],[0,1]),([7],[],[0,1,2]),([],[],[0]),([10,8],[],[1]),([9],[],[2])] (by kernel_rfl) (by kernel_rfl) q q
 refine ⟨?_,?_,?_,?_,?_,?_,?_,?_,?_,?_,?_,?_,?_,Zt⟩
 exact ⟨O2 q (fun _ => q) q q,O2 q (fun _ => q) q q,Zt⟩
 exact ⟨O2 q (fun _ => q) q q,O2 q (fun _ => q) q q,Zt⟩
 refine ⟨fun F => ?_,fun F => ?_,Zt⟩
 exact Zq (y_indexAddr_os e91 q q q (by decide) (by decide)) q (Zd q q q)
 exact Zq (y_indexAddr_os e91 q q q (by decide) (by decide)) q (Zd q q q)
 refine ⟨fun F => ?_,fun F => ?_,Zt⟩
 exact Zq (y_load_pe q q a46 q) q (Zd q q q)
 exact Zq (y_load_pe q q a46 q) q (Zd q q q)
 exact ⟨O2 q (fun _ => q) q q,O2 q (fun _ => q) q q,Zt⟩
 exact ⟨O2 q (fun _ => q) q q,O2 q (fun _ => q) q q,Zt⟩
 refine ⟨fun F => ?_,fun F => ?_,Zt⟩
 refine WL.wing [] q q q q (f22z_c _ _ hr185) ⟨Zl,Zl,Zl,Zt⟩ q (by decide) q Zt q q (Zw q) q q (fun r' new hS => ?_)
 obtain ⟨rfl,rfl⟩:=hS
 refine ⟨_,_,q,q,q,q,?_⟩
 exact Zd q q q
 refine WL.wing [] q q q q (f22z_c _ _ hr185) ⟨Zl,Zl,Zl,Zt⟩ q (by decide) q Zt q q (Zw q) q q (fun r' new hS => ?_)
 obtain ⟨rfl,rfl⟩:=hS
 refine ⟨_,_,q,q,q,q,?_⟩
 exact Zd q q q
 exact ⟨O2 q (fun _ => q) q q,O2 q (fun _ => q) q q,Zt⟩
 exact ⟨O2 q (fun _ => q) q q,O2 q (fun _ => q) q q,Zt⟩
 exact ⟨O2 q (fun _ => q) q q,O2 q (fun _ => q) q q,O2 q (fun _ => q) q q,Zt⟩
 refine ⟨fun F => ?_,Zt⟩
 exact Al z41 q (Zd q q q)
 refine ⟨fun F => ?_,Zt⟩
 exact WL.s0 (d_store q q q q q q s41 q q) (Zw q) q (WL.done0 q q)
 exact O1 q (fun _ => q) q q
 refine Rxl 5 q (Zq (y_indexAddr_os e91 q q q (by decide) (by decide)) q (Zq (y_load_pe q q a46 q) q (Rl 2 q ?_)))
 obtain ⟨r187,hr187,h⟩:=bindS h
 refine WL.wing [] q q q q (f24z_c _ _ hr187) ⟨Zl,Zl,Zl,Zt⟩ q (by decide) q Zt q q (Zw q) q q (fun r' new hS => ?_)
 obtain ⟨rfl,rfl⟩:=hS
 refine ⟨_,_,q,q,q,q,?_⟩
 refine St q (Rlc 7 q (Jn1 (fun t189 => [(1,.n o1),(2,.n k2),(3,.n v3),(4,.d (.pc (R41 r0))),(10,.os 4 0),(11,.n 0),(144,.d (D.b t189))]) (fun _ => [.row 90 [sN,sN,sN,.n 0,.os 1 0,sN,.os 3 0],.os 42 1 0 (famE 2 0 (List.length ([] : List (List Int)))),.fam 2 1 0 (famM E2 ([] : List (List Int))),.os 2 1 0 (eM E2 ([] : List Int)),.os 46 1 0 [[.d (.v (.pointer none))],[.pt 0 0]],.row 41 (vecA 16 (fun j => .n (r181.1.r j)) ++ ([.n r181.1.pc,.n r181.1.exc,.n r181.1.defer] : List AV)),.row 41 (vecA 16 (fun j => .n (r183.1.r j)) ++ ([.n r183.1.pc,.n r183.1.exc,.n r183.1.defer] : List AV)),.row 41 (vecA 16 (fun j => .n (r185.1.r j)) ++ ([.n r185.1.pc,.n r185.1.exc,.n r185.1.defer] : List AV))]) h (fun _ h => ?_) (fun t189 h => ?_)))
 rcases boolCases (!((decide ((r181.1.r 0) = 0)) && ((decide ((r181.1.r 1) = 0)) && ((decide ((r181.1.r 2) = 0)) && ((decide ((r181.1.r 3) = 0)) && ((decide ((r181.1.r 4) = 0)) && ((decide ((r181.1.r 5) = 0)) && ((decide ((r181.1.r 6) = 0)) && ((decide ((r181.1.r 7) = 0)) && ((decide ((r181.1.r 8) = 0)) && ((decide ((r181.1.r 9) = 0)) && ((decide ((r181.1.r 10) = 0)) && ((decide ((r181.1.r 11) = 0)) && ((decide ((r181.1.r 12) = 0)) && ((decide ((r181.1.r 13) = 0)) && ((decide ((r181.1.r 14) = 0)) && ((decide ((r181.1.r 15) = 0)) && ((decide (r181.1.pc = 0)) && ((decide (r181.1.exc = 0)) && ((decide (r181.1.defer = 0)) && true)))))))))))))))))))) with hb11 | hb11
 replace h:=condT h hb11
 apply RT [_,_,_,_,_,_,_,_,_,_,_,_,_,_,_,_,_,_,_,_,_,_,_,_,_,_,_,_,_,_,_,_,_,_,_,_,_,_,_,_,_,_,_,_,_,_,_,_,_,_,_,_,_,_,_,_,_,_,_,_,_,_,_,_,_,_,_,_,_,_,_,_,_,_,_] [] [] [([],[12],[0]),([],[],[0]),([0,1],[],[0]),([2],[],[0]),([3],[],[0]),([3],[],[0]),([3],[],[0]),([3,6],[],[0]),([7],[],[0]),([8],[],[0]),([8],[],[0]),([8],[],[0]),([8,11],[],[0]),([12],[],[0]),([13],[],[0]),([13],[],[0]),([13],[],[0]),([13],[],[0]),([13],[],[0]),([13],[],[0]),([13,19],[],[0]),([20],[],[0]),([21],[],[0]),([21],[],[0]),([21,23],[],[0]),([24],[],[0]),([25],[],[0]),([25],[],[0]),([25,27],[],[0]),([28],[],[0]),([29],[],[0]),([29],[],[0]),([29,31],[],[0]),([32],[],[0]),([33],[],[0]),([33],[],[0]),([33,35],[],[0]),([36],[],[0]),([37],[],[0]),([37],[],[0]),([37,39],[],[0]),([40],[],[0]),([41],[],[0]),([41],[],[0]),([41],[],[0]),([41],[],[0]),([41],[],[0]),([41],[],[0]),([41],[],[0]),([41],[],[0]),([41],[],[0]),([41,50],[],[0]),([51],[],[0]),([52],[],[0]),([52],[],[0]),([52],[],[0]),([52],[],[0]),([52],[],[0]),([52],[],[0]),([52],[],[0]),([52],[],[0]),([52],[],[0]),([52],[],[0]),([52],[],[0]),([52],[],[0]),([52],[],[0]),([52],[],[0]),([52],[],[0]),([52],[],[0]),([52],[],[0]),([52],[],[0]),([52],[],[0]),([52],[],[0]),([52],[],[0]),([52,73],[],[0])] (by kernel_rfl) (by kernel_rfl) q q
 refine ⟨?_,?_,?_,?_,?_,?_,?_,?_,?_,?_,?_,?_,?_,?_,?_,?_,?_,?_,?_,?_,?_,?_,?_,?_,?_,?_,?_,?_,?_,?_,?_,?_,?_,?_,?_,?_,?_,?_,?_,?_,?_,?_,?_,?_,?_,?_,?_,?_,?_,?_,?_,?_,?_,?_,?_,?_,?_,?_,?_,?_,?_,?_,?_,?_,?_,?_,?_,?_,?_,?_,?_,?_,?_,?_,?_,Zt⟩
 exact O1 q (fun _ => q) q q
 refine ⟨fun F => ?_,Zt⟩
 exact Zq (y_build p41 z41 q q) q (Zd q q q)
 refine ⟨fun F => ?_,Zt⟩
 exact Zq (y_nest (xs:=(V41 r181.1)) (ys:=z19) q41 q (Le.agd (Zs _)) q (Le.agd (Zs _)) q q q) q (Zd q q q)
 refine ⟨fun F => ?_,Zt⟩
 exact Rl 1 q (WL.cast 73 q (Le.ofd (Cb hb11)) (WL.done2 q q q))
 exact O1 q (fun _ => q) q q
 exact O1 q (fun _ => q) q q
 exact O1 q (fun _ => q) q q
 exact O1 q (fun _ => q) q q
 exact O1 q (fun _ => q) q q
 exact O1 q (fun _ => q) q q
 exact O1 q (fun _ => q) q q
 exact O1 q (fun _ => q) q q
 exact O1 q (fun _ => q) q q
 exact O1 q (fun _ => q) q q
 exact O1 q (fun _ => q) q q
 exact O1 q (fun _ => q) q q
 exact O1 q (fun _ => q) q q
 exact O1 q (fun _ => q) q q
 exact O1 q (fun _ => q) q q
 exact O1 q (fun _ => q) q q
 exact O1 q (fun _ => q) q q
 exact O1 q (fun _ => q) q q
 exact O1 q (fun _ => q) q q
 exact O1 q (fun _ => q) q q
 exact O1 q (fun _ => q) q q
 exact O1 q (fun _ => q) q q
 exact O1 q (fun _ => q) q q
 exact O1 q (fun _ => q) q q
 exact O1 q (fun _ => q) q q
 exact O1 q (fun _ => q) q q
 exact O1 q (fun _ => q) q q
 exact O1 q (fun _ => q) q q
 exact O1 q (fun _ => q) q q
 exact O1 q (fun _ => q) q q
 exact O1 q (fun _ => q) q q
 exact O1 q (fun _ => q) q q
 exact O1 q (fun _ => q) q q
 exact O1 q (fun _ => q) q q
 exact O1 q (fun _ => q) q q
 exact O1 q (fun _ => q) q q
 exact O1 q (fun _ => q) q q
 exact O1 q (fun _ => q) q q
 exact O1 q (fun _ => q) q q
 exact O1 q (fun _ => q) q q
 exact O1 q (fun _ => q) q q
 exact O1 q (fun _ => q) q q
 exact O1 q (fun _ => q) q q
 exact O1 q (fun _ => q) q q
 exact O1 q (fun _ => q) q q
 exact O1 q (fun _ => q) q q
 exact O1 q (fun _ => q) q q
 exact O1 q (fun _ => q) q q
 exact O1 q (fun _ => q) q q
 exact O1 q (fun _ => q) q q
 exact O1 q (fun _ => q) q q
 exact O1 q (fun _ => q) q q
 exact O1 q (fun _ => q) q q
 exact O1 q (fun _ => q) q q
 exact O1 q (fun _ => q) q q
 exact O1 q (fun _ => q) q q
 exact O1 q (fun _ => q) q q
 exact O1 q (fun _ => q) q q
 exact O1 q (fun _ => q) q q
 exact O1 q (fun _ => q) q q
 exact O1 q (fun _ => q) q q
 exact O1 q (fun _ => q) q q
 exact O1 q (fun _ => q) q q
 exact O1 q (fun _ => q) q q
 exact O1 q (fun _ => q) q q
 exact O1 q (fun _ => q) q q
 exact O1 q (fun _ => q) q q
 exact O1 q (fun _ => q) q q
 exact O1 q (fun _ => q) q q
 exact O1 q (fun _ => q) q q
 exact O1 q (fun _ => q) q q
 exact En1 h
 replace h:=condF h hb11
 rcases boolCases (!((decide ((r183.1.r 0) = (r181.1.r 0))) && ((decide ((r183.1.r 1) = (r181.1.r 1))) && ((decide ((r183.1.r 2) = (r181.1.r 2))) && ((decide ((r183.1.r 3) = (r181.1.r 3))) && ((decide ((r183.1.r 4) = (r181.1.r 4))) && ((decide ((r183.1.r 5) = (r181.1.r 5))) && ((decide ((r183.1.r 6) = (r181.1.r 6))) && ((decide ((r183.1.r 7) = (r181.1.r 7))) && ((decide ((r183.1.r 8) = (r181.1.r 8))) && ((decide ((r183.1.r 9) = (r181.1.r 9))) && ((decide ((r183.1.r 10) = (r181.1.r 10))) && ((decide ((r183.1.r 11) = (r181.1.r 11))) && ((decide ((r183.1.r 12) = (r181.1.r 12))) && ((decide ((r183.1.r 13) = (r181.1.r 13))) && ((decide ((r183.1.r 14) = (r181.1.r 14))) && ((decide ((r183.1.r 15) = (r181.1.r 15))) && ((decide (r183.1.pc = r181.1.pc)) && ((decide (r183.1.exc = r181.1.exc)) && ((decide (r183.1.defer = r181.1.defer)) && true)))))))))))))))))))) with hb12 | hb12
 replace h:=condT h hb12
 apply RT [_,_,_,_,_,_,_,_,_,_,_,_,_,_,_,_,_,_,_,_,_,_,_,_,_,_,_,_,_,_,_,_,_,_,_,_,_,_,_,_,_,_,_,_,_,_,_,_,_,_,_,_,_,_,_,_,_,_,_,_,_,_,_,_,_,_,_,_,_,_,_,_,_,_,_] [] [] [([],[12],[0]),([],[],[0]),([0,1],[],[0]),([2],[],[0]),([3],[15],[0]),([3],[12],[0]),([4,5,3],[],[0]),([3,6],[],[0]),([7],[],[0]),([8],[],[0]),([8],[],[0]),([8],[],[0]),([8,11],[],[0]),([12],[],[0]),([13],[],[0]),([13],[],[0]),([13],[],[0]),([13],[],[0]),([13],[],[0]),([13],[],[0]),([13,19],[],[0]),([20],[],[0]),([21],[],[0]),([21],[],[0]),([21,23],[],[0]),([24],[],[0]),([25],[],[0]),([25],[],[0]),([25,27],[],[0]),([28],[],[0]),([29],[],[0]),([29],[],[0]),([29,31],[],[0]),([32],[],[0]),([33],[],[0]),([33],[],[0]),([33,35],[],[0]),([36],[],[0]),([37],[],[0]),([37],[],[0]),([37,39],[],[0]),([40],[],[0]),([41],[],[0]),([41],[],[0]),([41],[],[0]),([41],[],[0]),([41],[],[0]),([41],[],[0]),([41],[],[0]),([41],[],[0]),([41],[],[0]),([41,50],[],[0]),([51],[],[0]),([52],[],[0]),([52],[],[0]),([52],[],[0]),([52],[],[0]),([52],[],[0]),([52],[],[0]),([52],[],[0]),([52],[],[0]),([52],[],[0]),([52],[],[0]),([52],[],[0]),([52],[],[0]),([52],[],[0]),([52],[],[0]),([52],[],[0]),([52],[],[0]),([52],[],[0]),([52],[],[0]),([52],[],[0]),([52],[],[0]),([52],[],[0]),([52,73],[],[0])] (by kernel_rfl) (by kernel_rfl) q q
 refine ⟨?_,?_,?_,?_,?_,?_,?_,?_,?_,?_,?_,?_,?_,?_,?_,?_,?_,?_,?_,?_,?_,?_,?_,?_,?_,?_,?_,?_,?_,?_,?_,?_,?_,?_,?_,?_,?_,?_,?_,?_,?_,?_,?_,?_,?_,?_,?_,?_,?_,?_,?_,?_,?_,?_,?_,?_,?_,?_,?_,?_,?_,?_,?_,?_,?_,?_,?_,?_,?_,?_,?_,?_,?_,?_,?_,Zt⟩
 exact O1 q (fun _ => q) q q
 refine ⟨fun F => ?_,Zt⟩
 exact Zq (y_build p41 z41 q q) q (Zd q q q)
 refine ⟨fun F => ?_,Zt⟩
 exact Zq (y_nest (xs:=(V41 r181.1)) (ys:=z19) q41 q (Le.agd (Zs _)) q (Le.agd (Zs _)) q q q) q (Zd q q q)
 refine ⟨fun F => ?_,Zt⟩
 exact Rl 1 q (WL.cast 73 q (Le.ofd (Cb hb11)) (WL.done2 q q q))
 exact O1 q (fun _ => q) q q
 exact O1 q (fun _ => q) q q
 refine ⟨fun F => ?_,Zt⟩
 exact Zy (y_nest (xs:=(V41 r183.1)) (ys:=(V41 r181.1)) q41 q (Le.agd (Zs _)) q (Le.agd (Zs _)) q q q) q q q (Zd q q q)
 exact O1 q (fun _ => q) q q
 refine ⟨fun F => ?_,Zt⟩
 exact Rl 1 q (WL.cast 78 q (Le.ofd (Cb hb12)) (WL.done2 q q q))
 exact O1 q (fun _ => q) q q
 exact O1 q (fun _ => q) q q
 exact O1 q (fun _ => q) q q
 exact O1 q (fun _ => q) q q
 exact O1 q (fun _ => q) q q
 exact O1 q (fun _ => q) q q
 exact O1 q (fun _ => q) q q
 exact O1 q (fun _ => q) q q
 exact O1 q (fun _ => q) q q
 exact O1 q (fun _ => q) q q
 exact O1 q (fun _ => q) q q
 exact O1 q (fun _ => q) q q
 exact O1 q (fun _ => q) q q
 exact O1 q (fun _ => q) q q
 exact O1 q (fun _ => q) q q
 exact O1 q (fun _ => q) q q
 exact O1 q (fun _ => q) q q
 exact O1 q (fun _ => q) q q
 exact O1 q (fun _ => q) q q
 exact O1 q (fun _ => q) q q
 exact O1 q (fun _ => q) q q
 exact O1 q (fun _ => q) q q
 exact O1 q (fun _ => q) q q
 exact O1 q (fun _ => q) q q
 exact O1 q (fun _ => q) q q
 exact O1 q (fun _ => q) q q
 exact O1 q (fun _ => q) q q
 exact O1 q (fun _ => q) q q
 exact O1 q (fun _ => q) q q
 exact O1 q (fun _ => q) q q
 exact O1 q (fun _ => q) q q
 exact O1 q (fun _ => q) q q
 exact O1 q (fun _ => q) q q
 exact O1 q (fun _ => q) q q
 exact O1 q (fun _ => q) q q
 exact O1 q (fun _ => q) q q
 exact O1 q (fun _ => q) q q
 exact O1 q (fun _ => q) q q
 exact O1 q (fun _ => q) q q
 exact O1 q (fun _ => q) q q
 exact O1 q (fun _ => q) q q
 exact O1 q (fun _ => q) q q
 exact O1 q (fun _ => q) q q
 exact O1 q (fun _ => q) q q
 exact O1 q (fun _ => q) q q
 exact O1 q (fun _ => q) q q
 exact O1 q (fun _ => q) q q
 exact O1 q (fun _ => q) q q
 exact O1 q (fun _ => q) q q
 exact O1 q (fun _ => q) q q
 exact O1 q (fun _ => q) q q
 exact O1 q (fun _ => q) q q
 exact O1 q (fun _ => q) q q
 exact O1 q (fun _ => q) q q
 exact O1 q (fun _ => q) q q
 exact O1 q (fun _ => q) q q
 exact O1 q (fun _ => q) q q
 exact O1 q (fun _ => q) q q
 exact O1 q (fun _ => q) q q
 exact O1 q (fun _ => q) q q
 exact O1 q (fun _ => q) q q
 exact O1 q (fun _ => q) q q
 exact O1 q (fun _ => q) q q
 exact O1 q (fun _ => q) q q
 exact O1 q (fun _ => q) q q
 exact O1 q (fun _ => q) q q
 exact En1 h
 replace h:=condF h hb12
 rcases boolCases (!((decide ((r185.1.r 0) = (r181.1.r 0))) && ((decide ((r185.1.r 1) = (r181.1.r 1))) && ((decide ((r185.1.r 2) = (r181.1.r 2))) && ((decide ((r185.1.r 3) = (r181.1.r 3))) && ((decide ((r185.1.r 4) = (r181.1.r 4))) && ((decide ((r185.1.r 5) = (r181.1.r 5))) && ((decide ((r185.1.r 6) = (r181.1.r 6))) && ((decide ((r185.1.r 7) = (r181.1.r 7))) && ((decide ((r185.1.r 8) = (r181.1.r 8))) && ((decide ((r185.1.r 9) = (r181.1.r 9))) && ((decide ((r185.1.r 10) = (r181.1.r 10))) && ((decide ((r185.1.r 11) = (r181.1.r 11))) && ((decide ((r185.1.r 12) = (r181.1.r 12))) && ((decide ((r185.1.r 13) = (r181.1.r 13))) && ((decide ((r185.1.r 14) = (r181.1.r 14))) && ((decide ((r185.1.r 15) = (r181.1.r 15))) && ((decide (r185.1.pc = r181.1.pc)) && ((decide (r185.1.exc = r181.1.exc)) && ((decide (r185.1.defer = r181.1.defer)) && true)))))))))))))))))))) with hb13 | hb13
 replace h:=condT h hb13
 apply RT [_,_,_,_,_,_,_,_,_,_,_,_,_,_,_,_,_,_,_,_,_,_,_,_,_,_,_,_,_,_,_,_,_,_,_,_,_,_,_,_,_,_,_,_,_,_,_,_,_,_,_,_,_,_,_,_,_,_,_,_,_,_,_,_,_,_,_,_,_,_,_,_,_,_,_] [] [] [([],[12],[0]),([],[],[0]),([0,1],[],[0]),([2],[],[0]),([3],[15],[0]),([3],[12],[0]),([4,5,3],[],[0]),([3,6],[],[0]),([7],[],[0]),([8],[18],[0]),([8],[12],[0]),([9,10,8],[],[0]),([8,11],[],[0]),([12],[],[0]),([13],[],[0]),([13],[],[0]),([13],[],[0]),([13],[],[0]),([13],[],[0]),([13],[],[0]),([13,19],[],[0]),([20],[],[0]),([21],[],[0]),([21],[],[0]),([21,23],[],[0]),([24],[],[0]),([25],[],[0]),([25],[],[0]),([25,27],[],[0]),([28],[],[0]),([29],[],[0]),([29],[],[0]),([29,31],[],[0]),([32],[],[0]),([33],[],[0]),([33],[],[0]),([33,35],[],[0]),([36],[],[0]),([37],[],[0]),([37],[],[0]),([37,39],[],[0]),([40],[],[0]),([41],[],[0]),([41],[],[0]),([41],[],[0]),([41],[],[0]),([41],[],[0]),([41],[],[0]),([41],[],[0]),([41],[],[0]),([41],[],[0]),([41,50],[],[0]),([51],[],[0]),([52],[],[0]),([52],[],[0]),([52],[],[0]),([52],[],[0]),([52],[],[0]),([52],[],[0]),([52],[],[0]),([52],[],[0]),([52],[],[0]),([52],[],[0]),([52],[],[0]),([52],[],[0]),([52],[],[0]),([52],[],[0]),([52],[],[0]),([52],[],[0]),([52],[],[0]),([52],[],[0]),([52],[],[0]),([52],[],[0]),([52],[],[0]),([52,73],[],[0])] (by kernel_rfl) (by kernel_rfl) q q
 refine ⟨?_,?_,?_,?_,?_,?_,?_,?_,?_,?_,?_,?_,?_,?_,?_,?_,?_,?_,?_,?_,?_,?_,?_,?_,?_,?_,?_,?_,?_,?_,?_,?_,?_,?_,?_,?_,?_,?_,?_,?_,?_,?_,?_,?_,?_,?_,?_,?_,?_,?_,?_,?_,?_,?_,?_,?_,?_,?_,?_,?_,?_,?_,?_,?_,?_,?_,?_,?_,?_,?_,?_,?_,?_,?_,?_,Zt⟩
 exact O1 q (fun _ => q) q q
 refine ⟨fun F => ?_,Zt⟩
 exact Zq (y_build p41 z41 q q) q (Zd q q q)
 refine ⟨fun F => ?_,Zt⟩
 exact Zq (y_nest (xs:=(V41 r181.1)) (ys:=z19) q41 q (Le.agd (Zs _)) q (Le.agd (Zs _)) q q q) q (Zd q q q)
 refine ⟨fun F => ?_,Zt⟩
 exact Rl 1 q (WL.cast 73 q (Le.ofd (Cb hb11)) (WL.done2 q q q))
 exact O1 q (fun _ => q) q q
 exact O1 q (fun _ => q) q q
 refine ⟨fun F => ?_,Zt⟩
 exact Zy (y_nest (xs:=(V41 r183.1)) (ys:=(V41 r181.1)) q41 q (Le.agd (Zs _)) q (Le.agd (Zs _)) q q q) q q q (Zd q q q)
 exact O1 q (fun _ => q) q q
 refine ⟨fun F => ?_,Zt⟩
 exact Rl 1 q (WL.cast 78 q (Le.ofd (Cb hb12)) (WL.done2 q q q))
 exact O1 q (fun _ => q) q q
 exact O1 q (fun _ => q) q q
 refine ⟨fun F => ?_,Zt⟩
 exact Zy (y_nest (xs:=(V41 r185.1)) (ys:=(V41 r181.1)) q41 q (Le.agd (Zs _)) q (Le.agd (Zs _)) q q q) q q q (Zd q q q)
 exact O1 q (fun _ => q) q q
 refine ⟨fun F => ?_,Zt⟩
 exact Rl 1 q (WL.cast 83 q (Le.ofd (Cb hb13)) (WL.done2 q q q))
 exact O1 q (fun _ => q) q q
 exact O1 q (fun _ => q) q q
 exact O1 q (fun _ => q) q q
 exact O1 q (fun _ => q) q q
 exact O1 q (fun _ => q) q q
 exact O1 q (fun _ => q) q q
 exact O1 q (fun _ => q) q q
 exact O1 q (fun _ => q) q q
 exact O1 q (fun _ => q) q q
 exact O1 q (fun _ => q) q q
 exact O1 q (fun _ => q) q q
 exact O1 q (fun _ => q) q q
 exact O1 q (fun _ => q) q q
 exact O1 q (fun _ => q) q q
 exact O1 q (fun _ => q) q q
 exact O1 q (fun _ => q) q q
 exact O1 q (fun _ => q) q q
 exact O1 q (fun _ => q) q q
 exact O1 q (fun _ => q) q q
 exact O1 q (fun _ => q) q q
 exact O1 q (fun _ => q) q q
 exact O1 q (fun _ => q) q q
 exact O1 q (fun _ => q) q q
 exact O1 q (fun _ => q) q q
 exact O1 q (fun _ => q) q q
 exact O1 q (fun _ => q) q q
 exact O1 q (fun _ => q) q q
 exact O1 q (fun _ => q) q q
 exact O1 q (fun _ => q) q q
 exact O1 q (fun _ => q) q q
 exact O1 q (fun _ => q) q q
 exact O1 q (fun _ => q) q q
 exact O1 q (fun _ => q) q q
 exact O1 q (fun _ => q) q q
 exact O1 q (fun _ => q) q q
 exact O1 q (fun _ => q) q q
 exact O1 q (fun _ => q) q q
 exact O1 q (fun _ => q) q q
 exact O1 q (fun _ => q) q q
 exact O1 q (fun _ => q) q q
 exact O1 q (fun _ => q) q q
 exact O1 q (fun _ => q) q q
 exact O1 q (fun _ => q) q q
 exact O1 q (fun _ => q) q q
 exact O1 q (fun _ => q) q q
 exact O1 q (fun _ => q) q q
 exact O1 q (fun _ => q) q q
 exact O1 q (fun _ => q) q q
 exact O1 q (fun _ => q) q q
 exact O1 q (fun _ => q) q q
 exact O1 q (fun _ => q) q q
 exact O1 q (fun _ => q) q q
 exact O1 q (fun _ => q) q q
 exact O1 q (fun _ => q) q q
 exact O1 q (fun _ => q) q q
 exact O1 q (fun _ => q) q q
 exact O1 q (fun _ => q) q q
 exact O1 q (fun _ => q) q q
 exact O1 q (fun _ => q) q q
 exact O1 q (fun _ => q) q q
 exact O1 q (fun _ => q) q q
 exact En1 h
 replace h:=condF h hb13
 rcases boolCases (!decide ((IntKind.i64.wrap ((List.length r181.2.1 : Int) + (List.length r183.2.1 : Int))) = 0)) with hb14 | hb14
 replace h:=condT h hb14
 apply RT [_,_,_,_,_,_,_,_,_,_,_,_,_,_,_,_,_,_,_,_,_,_,_,_,_,_,_,_,_,_,_,_,_,_,_,_,_,_,_,_,_,_,_,_,_,_,_,_,_,_,_,_,_,_,_,_,_,_,_,_,_,_,_,_,_,_,_,_,_,_,_,_,_,_,_] [] [] [([],[12],[0]),([],[],[0]),([0,1],[],[0]),([2],[],[0]),([3],[15],[0]),([3],[12],[0]),([4,5,3],[],[0]),([3,6],[],[0]),([7],[],[0]),([8],[18],[0]),([8],[12],[0]),([9,10,8],[],[0]),([8,11],[],[0]),([12],[],[0]),([13],[13],[0]),([14,13],[],[0]),([13],[16],[0]),([16,13],[],[0]),([15,17,13],[],[0]),([18,13],[],[0]),([13,19],[],[0]),([20],[],[0]),([21],[],[0]),([21],[],[0]),([21,23],[],[0]),([24],[],[0]),([25],[],[0]),([25],[],[0]),([25,27],[],[0]),([28],[],[0]),([29],[],[0]),([29],[],[0]),([29,31],[],[0]),([32],[],[0]),([33],[],[0]),([33],[],[0]),([33,35],[],[0]),([36],[],[0]),([37],[],[0]),([37],[],[0]),([37,39],[],[0]),([40],[],[0]),([41],[],[0]),([41],[],[0]),([41],[],[0]),([41],[],[0]),([41],[],[0]),([41],[],[0]),([41],[],[0]),([41],[],[0]),([41],[],[0]),([41,50],[],[0]),([51],[],[0]),([52],[],[0]),([52],[],[0]),([52],[],[0]),([52],[],[0]),([52],[],[0]),([52],[],[0]),([52],[],[0]),([52],[],[0]),([52],[],[0]),([52],[],[0]),([52],[],[0]),([52],[],[0]),([52],[],[0]),([52],[],[0]),([52],[],[0]),([52],[],[0]),([52],[],[0]),([52],[],[0]),([52],[],[0]),([52],[],[0]),([52],[],[0]),([52,73],[],[0])] (by kernel_rfl) (by kernel_rfl) q q
 refine ⟨?_,?_,?_,?_,?_,?_,?_,?_,?_,?_,?_,?_,?_,?_,?_,?_,?_,?_,?_,?_,?_,?_,?_,?_,?_,?_,?_,?_,?_,?_,?_,?_,?_,?_,?_,?_,?_,?_,?_,?_,?_,?_,?_,?_,?_,?_,?_,?_,?_,?_,?_,?_,?_,?_,?_,?_,?_,?_,?_,?_,?_,?_,?_,?_,?_,?_,?_,?_,?_,?_,?_,?_,?_,?_,?_,Zt⟩
 exact O1 q (fun _ => q) q q
 refine ⟨fun F => ?_,Zt⟩
 exact Zq (y_build p41 z41 q q) q (Zd q q q)
 refine ⟨fun F => ?_,Zt⟩
 exact Zq (y_nest (xs:=(V41 r181.1)) (ys:=z19) q41 q (Le.agd (Zs _)) q (Le.agd (Zs _)) q q q) q (Zd q q q)
 refine ⟨fun F => ?_,Zt⟩
 exact Rl 1 q (WL.cast 73 q (Le.ofd (Cb hb11)) (WL.done2 q q q))
 exact O1 q (fun _ => q) q q
 exact O1 q (fun _ => q) q q
 refine ⟨fun F => ?_,Zt⟩
 exact Zy (y_nest (xs:=(V41 r183.1)) (ys:=(V41 r181.1)) q41 q (Le.agd (Zs _)) q (Le.agd (Zs _)) q q q) q q q (Zd q q q)
 exact O1 q (fun _ => q) q q
 refine ⟨fun F => ?_,Zt⟩
 exact Rl 1 q (WL.cast 78 q (Le.ofd (Cb hb12)) (WL.done2 q q q))
 exact O1 q (fun _ => q) q q
 exact O1 q (fun _ => q) q q
 refine ⟨fun F => ?_,Zt⟩
 exact Zy (y_nest (xs:=(V41 r185.1)) (ys:=(V41 r181.1)) q41 q (Le.agd (Zs _)) q (Le.agd (Zs _)) q q q) q q q (Zd q q q)
 exact O1 q (fun _ => q) q q
 refine ⟨fun F => ?_,Zt⟩
 exact Rl 1 q (WL.cast 83 q (Le.ofd (Cb hb13)) (WL.done2 q q q))
 exact O1 q (fun _ => q) q q
 refine ⟨fun F => ?_,Zt⟩
 exact Zy (y_len_map E58 r181.2.1 e50 q q Zl) q q q (Zd q q q)
 exact O1 q (fun _ => q) q q
 refine ⟨fun F => ?_,Zt⟩
 exact Zy (y_len_map E58 r183.2.1 e50 q q Zl) q q q (Zd q q q)
 exact O1 q (fun _ => q) q q
 exact O1 q (fun _ => q) q q
 exact O1 q (fun _ => q) q q
 refine ⟨fun F => ?_,Zt⟩
 exact Rl 1 q (WL.cast 91 q (Le.ofd (Cb hb14)) (WL.done2 q q q))
 exact O1 q (fun _ => q) q q
 exact O1 q (fun _ => q) q q
 exact O1 q (fun _ => q) q q
 exact O1 q (fun _ => q) q q
 exact O1 q (fun _ => q) q q
 exact O1 q (fun _ => q) q q
 exact O1 q (fun _ => q) q q
 exact O1 q (fun _ => q) q q
 exact O1 q (fun _ => q) q q
 exact O1 q (fun _ => q) q q
 exact O1 q (fun _ => q) q q
 exact O1 q (fun _ => q) q q
 exact O1 q (fun _ => q) q q
 exact O1 q (fun _ => q) q q
 exact O1 q (fun _ => q) q q
 exact O1 q (fun _ => q) q q
 exact O1 q (fun _ => q) q q
 exact O1 q (fun _ => q) q q
 exact O1 q (fun _ => q) q q
 exact O1 q (fun _ => q) q q
 exact O1 q (fun _ => q) q q
 exact O1 q (fun _ => q) q q
 exact O1 q (fun _ => q) q q
 exact O1 q (fun _ => q) q q
 exact O1 q (fun _ => q) q q
 exact O1 q (fun _ => q) q q
 exact O1 q (fun _ => q) q q
 exact O1 q (fun _ => q) q q
 exact O1 q (fun _ => q) q q
 exact O1 q (fun _ => q) q q
 exact O1 q (fun _ => q) q q
 exact O1 q (fun _ => q) q q
 exact O1 q (fun _ => q) q q
 exact O1 q (fun _ => q) q q
 exact O1 q (fun _ => q) q q
 exact O1 q (fun _ => q) q q
 exact O1 q (fun _ => q) q q
 exact O1 q (fun _ => q) q q
 exact O1 q (fun _ => q) q q
 exact O1 q (fun _ => q) q q
 exact O1 q (fun _ => q) q q
 exact O1 q (fun _ => q) q q
 exact O1 q (fun _ => q) q q
 exact O1 q (fun _ => q) q q
 exact O1 q (fun _ => q) q q
 exact O1 q (fun _ => q) q q
 exact O1 q (fun _ => q) q q
 exact O1 q (fun _ => q) q q
 exact O1 q (fun _ => q) q q
 exact O1 q (fun _ => q) q q
 exact O1 q (fun _ => q) q q
 exact O1 q (fun _ => q) q q
 exact O1 q (fun _ => q) q q
 exact En1 h
 replace h:=condF h hb14
 rcases boolCases (!decide (r187.1 = 0)) with hb15 | hb15
 replace h:=condT h hb15
 apply RT [_,_,_,_,_,_,_,_,_,_,_,_,_,_,_,_,_,_,_,_,_,_,_,_,_,_,_,_,_,_,_,_,_,_,_,_,_,_,_,_,_,_,_,_,_,_,_,_,_,_,_,_,_,_,_,_,_,_,_,_,_,_,_,_,_,_,_,_,_,_,_,_,_,_,_] [] [] [([],[12],[0]),([],[],[0]),([0,1],[],[0]),([2],[],[0]),([3],[15],[0]),([3],[12],[0]),([4,5,3],[],[0]),([3,6],[],[0]),([7],[],[0]),([8],[18],[0]),([8],[12],[0]),([9,10,8],[],[0]),([8,11],[],[0]),([12],[],[0]),([13],[13],[0]),([14,13],[],[0]),([13],[16],[0]),([16,13],[],[0]),([15,17,13],[],[0]),([18,13],[],[0]),([13,19],[],[0]),([20],[],[0]),([21],[20],[0]),([22,21],[],[0]),([21,23],[],[0]),([24],[],[0]),([25],[],[0]),([25],[],[0]),([25,27],[],[0]),([28],[],[0]),([29],[],[0]),([29],[],[0]),([29,31],[],[0]),([32],[],[0]),([33],[],[0]),([33],[],[0]),([33,35],[],[0]),([36],[],[0]),([37],[],[0]),([37],[],[0]),([37,39],[],[0]),([40],[],[0]),([41],[],[0]),([41],[],[0]),([41],[],[0]),([41],[],[0]),([41],[],[0]),([41],[],[0]),([41],[],[0]),([41],[],[0]),([41],[],[0]),([41,50],[],[0]),([51],[],[0]),([52],[],[0]),([52],[],[0]),([52],[],[0]),([52],[],[0]),([52],[],[0]),([52],[],[0]),([52],[],[0]),([52],[],[0]),([52],[],[0]),([52],[],[0]),([52],[],[0]),([52],[],[0]),([52],[],[0]),([52],[],[0]),([52],[],[0]),([52],[],[0]),([52],[],[0]),([52],[],[0]),([52],[],[0]),([52],[],[0]),([52],[],[0]),([52,73],[],[0])] (by kernel_rfl) (by kernel_rfl) q q
 refine ⟨?_,?_,?_,?_,?_,?_,?_,?_,?_,?_,?_,?_,?_,?_,?_,?_,?_,?_,?_,?_,?_,?_,?_,?_,?_,?_,?_,?_,?_,?_,?_,?_,?_,?_,?_,?_,?_,?_,?_,?_,?_,?_,?_,?_,?_,?_,?_,?_,?_,?_,?_,?_,?_,?_,?_,?_,?_,?_,?_,?_,?_,?_,?_,?_,?_,?_,?_,?_,?_,?_,?_,?_,?_,?_,?_,Zt⟩
 exact O1 q (fun _ => q) q q
 refine ⟨fun F => ?_,Zt⟩
 exact Zq (y_build p41 z41 q q) q (Zd q q q)
 refine ⟨fun F => ?_,Zt⟩
 exact Zq (y_nest (xs:=(V41 r181.1)) (ys:=z19) q41 q (Le.agd (Zs _)) q (Le.agd (Zs _)) q q q) q (Zd q q q)
 refine ⟨fun F => ?_,Zt⟩
 exact Rl 1 q (WL.cast 73 q (Le.ofd (Cb hb11)) (WL.done2 q q q))
 exact O1 q (fun _ => q) q q
 exact O1 q (fun _ => q) q q
 refine ⟨fun F => ?_,Zt⟩
 exact Zy (y_nest (xs:=(V41 r183.1)) (ys:=(V41 r181.1)) q41 q (Le.agd (Zs _)) q (Le.agd (Zs _)) q q q) q q q (Zd q q q)
 exact O1 q (fun _ => q) q q
 refine ⟨fun F => ?_,Zt⟩
 exact Rl 1 q (WL.cast 78 q (Le.ofd (Cb hb12)) (WL.done2 q q q))
 exact O1 q (fun _ => q) q q
 exact O1 q (fun _ => q) q q
 refine ⟨fun F => ?_,Zt⟩
 exact Zy (y_nest (xs:=(V41 r185.1)) (ys:=(V41 r181.1)) q41 q (Le.agd (Zs _)) q (Le.agd (Zs _)) q q q) q q q (Zd q q q)
 exact O1 q (fun _ => q) q q
 refine ⟨fun F => ?_,Zt⟩
 exact Rl 1 q (WL.cast 83 q (Le.ofd (Cb hb13)) (WL.done2 q q q))
 exact O1 q (fun _ => q) q q
 refine ⟨fun F => ?_,Zt⟩
 exact Zy (y_len_map E58 r181.2.1 e50 q q Zl) q q q (Zd q q q)
 exact O1 q (fun _ => q) q q
 refine ⟨fun F => ?_,Zt⟩
 exact Zy (y_len_map E58 r183.2.1 e50 q q Zl) q q q (Zd q q q)
 exact O1 q (fun _ => q) q q
 exact O1 q (fun _ => q) q q
 exact O1 q (fun _ => q) q q
 refine ⟨fun F => ?_,Zt⟩
 exact Rl 1 q (WL.cast 91 q (Le.ofd (Cb hb14)) (WL.done2 q q q))
 exact O1 q (fun _ => q) q q
 exact O1 q (fun _ => q) q q
 exact O1 q (fun _ => q) q q
 refine ⟨fun F => ?_,Zt⟩
 exact Rl 1 q (WL.cast 95 q (Le.ofd (Cb hb15)) (WL.done2 q q q))
 exact O1 q (fun _ => q) q q
 exact O1 q (fun _ => q) q q
 exact O1 q (fun _ => q) q q
 exact O1 q (fun _ => q) q q
 exact O1 q (fun _ => q) q q
 exact O1 q (fun _ => q) q q
 exact O1 q (fun _ => q) q q
 exact O1 q (fun _ => q) q q
 exact O1 q (fun _ => q) q q
 exact O1 q (fun _ => q) q q
 exact O1 q (fun _ => q) q q
 exact O1 q (fun _ => q) q q
 exact O1 q (fun _ => q) q q
 exact O1 q (fun _ => q) q q
 exact O1 q (fun _ => q) q q
 exact O1 q (fun _ => q) q q
 exact O1 q (fun _ => q) q q
 exact O1 q (fun _ => q) q q
 exact O1 q (fun _ => q) q q
 exact O1 q (fun _ => q) q q
 exact O1 q (fun _ => q) q q
 exact O1 q (fun _ => q) q q
 exact O1 q (fun _ => q) q q
 exact O1 q (fun _ => q) q q
 exact O1 q (fun _ => q) q q
 exact O1 q (fun _ => q) q q
 exact O1 q (fun _ => q) q q
 exact O1 q (fun _ => q) q q
 exact O1 q (fun _ => q) q q
 exact O1 q (fun _ => q) q q
 exact O1 q (fun _ => q) q q
 exact O1 q (fun _ => q) q q
 exact O1 q (fun _ => q) q q
 exact O1 q (fun _ => q) q q
 exact O1 q (fun _ => q) q q
 exact O1 q (fun _ => q) q q
 exact O1 q (fun _ => q) q q
 exact O1 q (fun _ => q) q q
 exact O1 q (fun _ => q) q q
 exact O1 q (fun _ => q) q q
 exact O1 q (fun _ => q) q q
 exact O1 q (fun _ => q) q q
 exact O1 q (fun _ => q) q q
 exact O1 q (fun _ => q) q q
 exact O1 q (fun _ => q) q q
 exact O1 q (fun _ => q) q q
 exact O1 q (fun _ => q) q q
 exact O1 q (fun _ => q) q q
 exact O1 q (fun _ => q) q q
 exact En1 h
 replace h:=condF h hb15
 rcases boolCases (!decide (r181.2.2 = 1)) with hb16 | hb16
 replace h:=condT h hb16
 apply RT [_,_,_,_,_,_,_,_,_,_,_,_,_,_,_,_,_,_,_,_,_,_,_,_,_,_,_,_,_,_,_,_,_,_,_,_,_,_,_,_,_,_,_,_,_,_,_,_,_,_,_,_,_,_,_,_,_,_,_,_,_,_,_,_,_,_,_,_,_,_,_,_,_,_,_] [] [] [([],[12],[0]),([],[],[0]),([0,1],[],[0]),([2],[],[0]),([3],[15],[0]),([3],[12],[0]),([4,5,3],[],[0]),([3,6],[],[0]),([7],[],[0]),([8],[18],[0]),([8],[12],[0]),([9,10,8],[],[0]),([8,11],[],[0]),([12],[],[0]),([13],[13],[0]),([14,13],[],[0]),([13],[16],[0]),([16,13],[],[0]),([15,17,13],[],[0]),([18,13],[],[0]),([13,19],[],[0]),([20],[],[0]),([21],[20],[0]),([22,21],[],[0]),([21,23],[],[0]),([24],[],[0]),([25],[14],[0]),([26,25],[],[0]),([25,27],[],[0]),([28],[],[0]),([29],[],[0]),([29],[],[0]),([29,31],[],[0]),([32],[],[0]),([33],[],[0]),([33],[],[0]),([33,35],[],[0]),([36],[],[0]),([37],[],[0]),([37],[],[0]),([37,39],[],[0]),([40],[],[0]),([41],[],[0]),([41],[],[0]),([41],[],[0]),([41],[],[0]),([41],[],[0]),([41],[],[0]),([41],[],[0]),([41],[],[0]),([41],[],[0]),([41,50],[],[0]),([51],[],[0]),([52],[],[0]),([52],[],[0]),([52],[],[0]),([52],[],[0]),([52],[],[0]),([52],[],[0]),([52],[],[0]),([52],[],[0]),([52],[],[0]),([52],[],[0]),([52],[],[0]),([52],[],[0]),([52],[],[0]),([52],[],[0]),([52],[],[0]),([52],[],[0]),([52],[],[0]),([52],[],[0]),([52],[],[0]),([52],[],[0]),([52],[],[0]),([52,73],[],[0])] (by kernel_rfl) (by kernel_rfl) q q
 refine ⟨?_,?_,?_,?_,?_,?_,?_,?_,?_,?_,?_,?_,?_,?_,?_,?_,?_,?_,?_,?_,?_,?_,?_,?_,?_,?_,?_,?_,?_,?_,?_,?_,?_,?_,?_,?_,?_,?_,?_,?_,?_,?_,?_,?_,?_,?_,?_,?_,?_,?_,?_,?_,?_,?_,?_,?_,?_,?_,?_,?_,?_,?_,?_,?_,?_,?_,?_,?_,?_,?_,?_,?_,?_,?_,?_,Zt⟩
 exact O1 q (fun _ => q) q q
 refine ⟨fun F => ?_,Zt⟩
 exact Zq (y_build p41 z41 q q) q (Zd q q q)
 refine ⟨fun F => ?_,Zt⟩
 exact Zq (y_nest (xs:=(V41 r181.1)) (ys:=z19) q41 q (Le.agd (Zs _)) q (Le.agd (Zs _)) q q q) q (Zd q q q)
 refine ⟨fun F => ?_,Zt⟩
 exact Rl 1 q (WL.cast 73 q (Le.ofd (Cb hb11)) (WL.done2 q q q))
 exact O1 q (fun _ => q) q q
 exact O1 q (fun _ => q) q q
 refine ⟨fun F => ?_,Zt⟩
 exact Zy (y_nest (xs:=(V41 r183.1)) (ys:=(V41 r181.1)) q41 q (Le.agd (Zs _)) q (Le.agd (Zs _)) q q q) q q q (Zd q q q)
 exact O1 q (fun _ => q) q q
 refine ⟨fun F => ?_,Zt⟩
 exact Rl 1 q (WL.cast 78 q (Le.ofd (Cb hb12)) (WL.done2 q q q))
 exact O1 q (fun _ => q) q q
 exact O1 q (fun _ => q) q q
 refine ⟨fun F => ?_,Zt⟩
 exact Zy (y_nest (xs:=(V41 r185.1)) (ys:=(V41 r181.1)) q41 q (Le.agd (Zs _)) q (Le.agd (Zs _)) q q q) q q q (Zd q q q)
 exact O1 q (fun _ => q) q q
 refine ⟨fun F => ?_,Zt⟩
 exact Rl 1 q (WL.cast 83 q (Le.ofd (Cb hb13)) (WL.done2 q q q))
 exact O1 q (fun _ => q) q q
 refine ⟨fun F => ?_,Zt⟩
 exact Zy (y_len_map E58 r181.2.1 e50 q q Zl) q q q (Zd q q q)
 exact O1 q (fun _ => q) q q
 refine ⟨fun F => ?_,Zt⟩
 exact Zy (y_len_map E58 r183.2.1 e50 q q Zl) q q q (Zd q q q)
 exact O1 q (fun _ => q) q q
 exact O1 q (fun _ => q) q q
 exact O1 q (fun _ => q) q q
 refine ⟨fun F => ?_,Zt⟩
 exact Rl 1 q (WL.cast 91 q (Le.ofd (Cb hb14)) (WL.done2 q q q))
 exact O1 q (fun _ => q) q q
 exact O1 q (fun _ => q) q q
 exact O1 q (fun _ => q) q q
 refine ⟨fun F => ?_,Zt⟩
 exact Rl 1 q (WL.cast 95 q (Le.ofd (Cb hb15)) (WL.done2 q q q))
 exact O1 q (fun _ => q) q q
 exact O1 q (fun _ => q) q q
 exact O1 q (fun _ => q) q q
 refine ⟨fun F => ?_,Zt⟩
 exact Rl 1 q (WL.cast 99 q (Le.ofd (Cb hb16)) (WL.done2 q q q))
 exact O1 q (fun _ => q) q q
 exact O1 q (fun _ => q) q q
 exact O1 q (fun _ => q) q q
 exact O1 q (fun _ => q) q q
 exact O1 q (fun _ => q) q q
 exact O1 q (fun _ => q) q q
 exact O1 q (fun _ => q) q q
 exact O1 q (fun _ => q) q q
 exact O1 q (fun _ => q) q q
 exact O1 q (fun _ => q) q q
 exact O1 q (fun _ => q) q q
 exact O1 q (fun _ => q) q q
 exact O1 q (fun _ => q) q q
 exact O1 q (fun _ => q) q q
 exact O1 q (fun _ => q) q q
 exact O1 q (fun _ => q) q q
 exact O1 q (fun _ => q) q q
 exact O1 q (fun _ => q) q q
 exact O1 q (fun _ => q) q q
 exact O1 q (fun _ => q) q q
 exact O1 q (fun _ => q) q q
 exact O1 q (fun _ => q) q q
 exact O1 q (fun _ => q) q q
 exact O1 q (fun _ => q) q q
 exact O1 q (fun _ => q) q q
 exact O1 q (fun _ => q) q q
 exact O1 q (fun _ => q) q q
 exact O1 q (fun _ => q) q q
 exact O1 q (fun _ => q) q q
 exact O1 q (fun _ => q) q q
 exact O1 q (fun _ => q) q q
 exact O1 q (fun _ => q) q q
 exact O1 q (fun _ => q) q q
 exact O1 q (fun _ => q) q q
 exact O1 q (fun _ => q) q q
 exact O1 q (fun _ => q) q q
 exact O1 q (fun _ => q) q q
 exact O1 q (fun _ => q) q q
 exact O1 q (fun _ => q) q q
 exact O1 q (fun _ => q) q q
 exact O1 q (fun _ => q) q q
 exact O1 q (fun _ => q) q q
 exact O1 q (fun _ => q) q q
 exact O1 q (fun _ => q) q q
 exact O1 q (fun _ => q) q q
 exact En1 h
 replace h:=condF h hb16
 rcases boolCases (!decide (r183.2.2 = 1)) with hb17 | hb17
 replace h:=condT h hb17
 apply RT [_,_,_,_,_,_,_,_,_,_,_,_,_,_,_,_,_,_,_,_,_,_,_,_,_,_,_,_,_,_,_,_,_,_,_,_,_,_,_,_,_,_,_,_,_,_,_,_,_,_,_,_,_,_,_,_,_,_,_,_,_,_,_,_,_,_,_,_,_,_,_,_,_,_,_] [] [] [([],[12],[0]),([],[],[0]),([0,1],[],[0]),([2],[],[0]),([3],[15],[0]),([3],[12],[0]),([4,5,3],[],[0]),([3,6],[],[0]),([7],[],[0]),([8],[18],[0]),([8],[12],[0]),([9,10,8],[],[0]),([8,11],[],[0]),([12],[],[0]),([13],[13],[0]),([14,13],[],[0]),([13],[16],[0]),([16,13],[],[0]),([15,17,13],[],[0]),([18,13],[],[0]),([13,19],[],[0]),([20],[],[0]),([21],[20],[0]),([22,21],[],[0]),([21,23],[],[0]),([24],[],[0]),([25],[14],[0]),([26,25],[],[0]),([25,27],[],[0]),([28],[],[0]),([29],[17],[0]),([30,29],[],[0]),([29,31],[],[0]),([32],[],[0]),([33],[],[0]),([33],[],[0]),([33,35],[],[0]),([36],[],[0]),([37],[],[0]),([37],[],[0]),([37,39],[],[0]),([40],[],[0]),([41],[],[0]),([41],[],[0]),([41],[],[0]),([41],[],[0]),([41],[],[0]),([41],[],[0]),([41],[],[0]),([41],[],[0]),([41],[],[0]),([41,50],[],[0]),([51],[],[0]),([52],[],[0]),([52],[],[0]),([52],[],[0]),([52],[],[0]),([52],[],[0]),([52],[],[0]),([52],[],[0]),([52],[],[0]),([52],[],[0]),([52],[],[0]),([52],[],[0]),([52],[],[0]),([52],[],[0]),([52],[],[0]),([52],[],[0]),([52],[],[0]),([52],[],[0]),([52],[],[0]),([52],[],[0]),([52],[],[0]),([52],[],[0]),([52,73],[],[0])] (by kernel_rfl) (by kernel_rfl) q q
 refine ⟨?_,?_,?_,?_,?_,?_,?_,?_,?_,?_,?_,?_,?_,?_,?_,?_,?_,?_,?_,?_,?_,?_,?_,?_,?_,?_,?_,?_,?_,?_,?_,?_,?_,?_,?_,?_,?_,?_,?_,?_,?_,?_,?_,?_,?_,?_,?_,?_,?_,?_,?_,?_,?_,?_,?_,?_,?_,?_,?_,?_,?_,?_,?_,?_,?_,?_,?_,?_,?_,?_,?_,?_,?_,?_,?_,Zt⟩
 exact O1 q (fun _ => q) q q
 refine ⟨fun F => ?_,Zt⟩
 exact Zq (y_build p41 z41 q q) q (Zd q q q)
 refine ⟨fun F => ?_,Zt⟩
 exact Zq (y_nest (xs:=(V41 r181.1)) (ys:=z19) q41 q (Le.agd (Zs _)) q (Le.agd (Zs _)) q q q) q (Zd q q q)
 refine ⟨fun F => ?_,Zt⟩
 exact Rl 1 q (WL.cast 73 q (Le.ofd (Cb hb11)) (WL.done2 q q q))
 exact O1 q (fun _ => q) q q
 exact O1 q (fun _ => q) q q
 refine ⟨fun F => ?_,Zt⟩
 exact Zy (y_nest (xs:=(V41 r183.1)) (ys:=(V41 r181.1)) q41 q (Le.agd (Zs _)) q (Le.agd (Zs _)) q q q) q q q (Zd q q q)
 exact O1 q (fun _ => q) q q
 refine ⟨fun F => ?_,Zt⟩
 exact Rl 1 q (WL.cast 78 q (Le.ofd (Cb hb12)) (WL.done2 q q q))
 exact O1 q (fun _ => q) q q
 exact O1 q (fun _ => q) q q
 refine ⟨fun F => ?_,Zt⟩
 exact Zy (y_nest (xs:=(V41 r185.1)) (ys:=(V41 r181.1)) q41 q (Le.agd (Zs _)) q (Le.agd (Zs _)) q q q) q q q (Zd q q q)
 exact O1 q (fun _ => q) q q
 refine ⟨fun F => ?_,Zt⟩
 exact Rl 1 q (WL.cast 83 q (Le.ofd (Cb hb13)) (WL.done2 q q q))
 exact O1 q (fun _ => q) q q
 refine ⟨fun F => ?_,Zt⟩
 exact Zy (y_len_map E58 r181.2.1 e50 q q Zl) q q q (Zd q q q)
 exact O1 q (fun _ => q) q q
 refine ⟨fun F => ?_,Zt⟩
 exact Zy (y_len_map E58 r183.2.1 e50 q q Zl) q q q (Zd q q q)
 exact O1 q (fun _ => q) q q
 exact O1 q (fun _ => q) q q
 exact O1 q (fun _ => q) q q
 refine ⟨fun F => ?_,Zt⟩
 exact Rl 1 q (WL.cast 91 q (Le.ofd (Cb hb14)) (WL.done2 q q q))
 exact O1 q (fun _ => q) q q
 exact O1 q (fun _ => q) q q
 exact O1 q (fun _ => q) q q
 refine ⟨fun F => ?_,Zt⟩
 exact Rl 1 q (WL.cast 95 q (Le.ofd (Cb hb15)) (WL.done2 q q q))
 exact O1 q (fun _ => q) q q
 exact O1 q (fun _ => q) q q
 exact O1 q (fun _ => q) q q
 refine ⟨fun F => ?_,Zt⟩
 exact Rl 1 q (WL.cast 99 q (Le.ofd (Cb hb16)) (WL.done2 q q q))
 exact O1 q (fun _ => q) q q
 exact O1 q (fun _ => q) q q
 exact O1 q (fun _ => q) q q
 refine ⟨fun F => ?_,Zt⟩
 exact Rl 1 q (WL.cast 103 q (Le.ofd (Cb hb17)) (WL.done2 q q q))
 exact O1 q (fun _ => q) q q
 exact O1 q (fun _ => q) q q
 exact O1 q (fun _ => q) q q
 exact O1 q (fun _ => q) q q
 exact O1 q (fun _ => q) q q
 exact O1 q (fun _ => q) q q
 exact O1 q (fun _ => q) q q
 exact O1 q (fun _ => q) q q
 exact O1 q (fun _ => q) q q
 exact O1 q (fun _ => q) q q
 exact O1 q (fun _ => q) q q
 exact O1 q (fun _ => q) q q
 exact O1 q (fun _ => q) q q
 exact O1 q (fun _ => q) q q
 exact O1 q (fun _ => q) q q
 exact O1 q (fun _ => q) q q
 exact O1 q (fun _ => q) q q
 exact O1 q (fun _ => q) q q
 exact O1 q (fun _ => q) q q
 exact O1 q (fun _ => q) q q
 exact O1 q (fun _ => q) q q
 exact O1 q (fun _ => q) q q
 exact O1 q (fun _ => q) q q
 exact O1 q (fun _ => q) q q
 exact O1 q (fun _ => q) q q
 exact O1 q (fun _ => q) q q
 exact O1 q (fun _ => q) q q
 exact O1 q (fun _ => q) q q
 exact O1 q (fun _ => q) q q
 exact O1 q (fun _ => q) q q
 exact O1 q (fun _ => q) q q
 exact O1 q (fun _ => q) q q
 exact O1 q (fun _ => q) q q
 exact O1 q (fun _ => q) q q
 exact O1 q (fun _ => q) q q
 exact O1 q (fun _ => q) q q
 exact O1 q (fun _ => q) q q
 exact O1 q (fun _ => q) q q
 exact O1 q (fun _ => q) q q
 exact O1 q (fun _ => q) q q
 exact O1 q (fun _ => q) q q
 exact En1 h
 replace h:=condF h hb17
 rcases boolCases (!decide (r185.2 = 1)) with hb18 | hb18
 replace h:=condT h hb18
 apply RT [_,_,_,_,_,_,_,_,_,_,_,_,_,_,_,_,_,_,_,_,_,_,_,_,_,_,_,_,_,_,_,_,_,_,_,_,_,_,_,_,_,_,_,_,_,_,_,_,_,_,_,_,_,_,_,_,_,_,_,_,_,_,_,_,_,_,_,_,_,_,_,_,_,_,_] [] [] [([],[12],[0]),([],[],[0]),([0,1],[],[0]),([2],[],[0]),([3],[15],[0]),([3],[12],[0]),([4,5,3],[],[0]),([3,6],[],[0]),([7],[],[0]),([8],[18],[0]),([8],[12],[0]),([9,10,8],[],[0]),([8,11],[],[0]),([12],[],[0]),([13],[13],[0]),([14,13],[],[0]),([13],[16],[0]),([16,13],[],[0]),([15,17,13],[],[0]),([18,13],[],[0]),([13,19],[],[0]),([20],[],[0]),([21],[20],[0]),([22,21],[],[0]),([21,23],[],[0]),([24],[],[0]),([25],[14],[0]),([26,25],[],[0]),([25,27],[],[0]),([28],[],[0]),([29],[17],[0]),([30,29],[],[0]),([29,31],[],[0]),([32],[],[0]),([33],[19],[0]),([34,33],[],[0]),([33,35],[],[0]),([36],[],[0]),([37],[],[0]),([37],[],[0]),([37,39],[],[0]),([40],[],[0]),([41],[],[0]),([41],[],[0]),([41],[],[0]),([41],[],[0]),([41],[],[0]),([41],[],[0]),([41],[],[0]),([41],[],[0]),([41],[],[0]),([41,50],[],[0]),([51],[],[0]),([52],[],[0]),([52],[],[0]),([52],[],[0]),([52],[],[0]),([52],[],[0]),([52],[],[0]),([52],[],[0]),([52],[],[0]),([52],[],[0]),([52],[],[0]),([52],[],[0]),([52],[],[0]),([52],[],[0]),([52],[],[0]),([52],[],[0]),([52],[],[0]),([52],[],[0]),([52],[],[0]),([52],[],[0]),([52],[],[0]),([52],[],[0]),([52,73],[],[0])] (by kernel_rfl) (by kernel_rfl) q q
 refine ⟨?_,?_,?_,?_,?_,?_,?_,?_,?_,?_,?_,?_,?_,?_,?_,?_,?_,?_,?_,?_,?_,?_,?_,?_,?_,?_,?_,?_,?_,?_,?_,?_,?_,?_,?_,?_,?_,?_,?_,?_,?_,?_,?_,?_,?_,?_,?_,?_,?_,?_,?_,?_,?_,?_,?_,?_,?_,?_,?_,?_,?_,?_,?_,?_,?_,?_,?_,?_,?_,?_,?_,?_,?_,?_,?_,Zt⟩
 exact O1 q (fun _ => q) q q
 refine ⟨fun F => ?_,Zt⟩
 exact Zq (y_build p41 z41 q q) q (Zd q q q)
 refine ⟨fun F => ?_,Zt⟩
 exact Zq (y_nest (xs:=(V41 r181.1)) (ys:=z19) q41 q (Le.agd (Zs _)) q (Le.agd (Zs _)) q q q) q (Zd q q q)
 refine ⟨fun F => ?_,Zt⟩
 exact Rl 1 q (WL.cast 73 q (Le.ofd (Cb hb11)) (WL.done2 q q q))
 exact O1 q (fun _ => q) q q
 exact O1 q (fun _ => q) q q
 refine ⟨fun F => ?_,Zt⟩
 exact Zy (y_nest (xs:=(V41 r183.1)) (ys:=(V41 r181.1)) q41 q (Le.agd (Zs _)) q (Le.agd (Zs _)) q q q) q q q (Zd q q q)
 exact O1 q (fun _ => q) q q
 refine ⟨fun F => ?_,Zt⟩
 exact Rl 1 q (WL.cast 78 q (Le.ofd (Cb hb12)) (WL.done2 q q q))
 exact O1 q (fun _ => q) q q
 exact O1 q (fun _ => q) q q
 refine ⟨fun F => ?_,Zt⟩
 exact Zy (y_nest (xs:=(V41 r185.1)) (ys:=(V41 r181.1)) q41 q (Le.agd (Zs _)) q (Le.agd (Zs _)) q q q) q q q (Zd q q q)
 exact O1 q (fun _ => q) q q
 refine ⟨fun F => ?_,Zt⟩
 exact Rl 1 q (WL.cast 83 q (Le.ofd (Cb hb13)) (WL.done2 q q q))
 exact O1 q (fun _ => q) q q
 refine ⟨fun F => ?_,Zt⟩
 exact Zy (y_len_map E58 r181.2.1 e50 q q Zl) q q q (Zd q q q)
 exact O1 q (fun _ => q) q q
 refine ⟨fun F => ?_,Zt⟩
 exact Zy (y_len_map E58 r183.2.1 e50 q q Zl) q q q (Zd q q q)
 exact O1 q (fun _ => q) q q
 exact O1 q (fun _ => q) q q
 exact O1 q (fun _ => q) q q
 refine ⟨fun F => ?_,Zt⟩
 exact Rl 1 q (WL.cast 91 q (Le.ofd (Cb hb14)) (WL.done2 q q q))
 exact O1 q (fun _ => q) q q
 exact O1 q (fun _ => q) q q
 exact O1 q (fun _ => q) q q
 refine ⟨fun F => ?_,Zt⟩
 exact Rl 1 q (WL.cast 95 q (Le.ofd (Cb hb15)) (WL.done2 q q q))
 exact O1 q (fun _ => q) q q
 exact O1 q (fun _ => q) q q
 exact O1 q (fun _ => q) q q
 refine ⟨fun F => ?_,Zt⟩
 exact Rl 1 q (WL.cast 99 q (Le.ofd (Cb hb16)) (WL.done2 q q q))
 exact O1 q (fun _ => q) q q
 exact O1 q (fun _ => q) q q
 exact O1 q (fun _ => q) q q
 refine ⟨fun F => ?_,Zt⟩
 exact Rl 1 q (WL.cast 103 q (Le.ofd (Cb hb17)) (WL.done2 q q q))
 exact O1 q (fun _ => q) q q
 exact O1 q (fun _ => q) q q
 exact O1 q (fun _ => q) q q
 refine ⟨fun F => ?_,Zt⟩
 exact Rl 1 q (WL.cast 107 q (Le.ofd (Cb hb18)) (WL.done2 q q q))
 exact O1 q (fun _ => q) q q
 exact O1 q (fun _ => q) q q
 exact O1 q (fun _ => q) q q
 exact O1 q (fun _ => q) q q
 exact O1 q (fun _ => q) q q
 exact O1 q (fun _ => q) q q
 exact O1 q (fun _ => q) q q
 exact O1 q (fun _ => q) q q
 exact O1 q (fun _ => q) q q
 exact O1 q (fun _ => q) q q
 exact O1 q (fun _ => q) q q
 exact O1 q (fun _ => q) q q
 exact O1 q (fun _ => q) q q
 exact O1 q (fun _ => q) q q
 exact O1 q (fun _ => q) q q
 exact O1 q (fun _ => q) q q
 exact O1 q (fun _ => q) q q
 exact O1 q (fun _ => q) q q
 exact O1 q (fun _ => q) q q
 exact O1 q (fun _ => q) q q
 exact O1 q (fun _ => q) q q
 exact O1 q (fun _ => q) q q
 exact O1 q (fun _ => q) q q
 exact O1 q (fun _ => q) q q
 exact O1 q (fun _ => q) q q
 exact O1 q (fun _ => q) q q
 exact O1 q (fun _ => q) q q
 exact O1 q (fun _ => q) q q
 exact O1 q (fun _ => q) q q
 exact O1 q (fun _ => q) q q
 exact O1 q (fun _ => q) q q
 exact O1 q (fun _ => q) q q
 exact O1 q (fun _ => q) q q
 exact O1 q (fun _ => q) q q
 exact O1 q (fun _ => q) q q
 exact O1 q (fun _ => q) q q
 exact O1 q (fun _ => q) q q
 exact En1 h
 replace h:=condF h hb18
 rcases boolCases (!decide (r187.2 = 1)) with hb19 | hb19
 replace h:=condT h hb19
 apply RT [_,_,_,_,_,_,_,_,_,_,_,_,_,_,_,_,_,_,_,_,_,_,_,_,_,_,_,_,_,_,_,_,_,_,_,_,_,_,_,_,_,_,_,_,_,_,_,_,_,_,_,_,_,_,_,_,_,_,_,_,_,_,_,_,_,_,_,_,_,_,_,_,_,_,_] [] [] [([],[12],[0]),([],[],[0]),([0,1],[],[0]),([2],[],[0]),([3],[15],[0]),([3],[12],[0]),([4,5,3],[],[0]),([3,6],[],[0]),([7],[],[0]),([8],[18],[0]),([8],[12],[0]),([9,10,8],[],[0]),([8,11],[],[0]),([12],[],[0]),([13],[13],[0]),([14,13],[],[0]),([13],[16],[0]),([16,13],[],[0]),([15,17,13],[],[0]),([18,13],[],[0]),([13,19],[],[0]),([20],[],[0]),([21],[20],[0]),([22,21],[],[0]),([21,23],[],[0]),([24],[],[0]),([25],[14],[0]),([26,25],[],[0]),([25,27],[],[0]),([28],[],[0]),([29],[17],[0]),([30,29],[],[0]),([29,31],[],[0]),([32],[],[0]),([33],[19],[0]),([34,33],[],[0]),([33,35],[],[0]),([36],[],[0]),([37],[21],[0]),([38,37],[],[0]),([37,39],[],[0]),([40],[],[0]),([41],[],[0]),([41],[],[0]),([41],[],[0]),([41],[],[0]),([41],[],[0]),([41],[],[0]),([41],[],[0]),([41],[],[0]),([41],[],[0]),([41,50],[],[0]),([51],[],[0]),([52],[],[0]),([52],[],[0]),([52],[],[0]),([52],[],[0]),([52],[],[0]),([52],[],[0]),([52],[],[0]),([52],[],[0]),([52],[],[0]),([52],[],[0]),([52],[],[0]),([52],[],[0]),([52],[],[0]),([52],[],[0]),([52],[],[0]),([52],[],[0]),([52],[],[0]),([52],[],[0]),([52],[],[0]),([52],[],[0]),([52],[],[0]),([52,73],[],[0])] (by kernel_rfl) (by kernel_rfl) q q
 refine ⟨?_,?_,?_,?_,?_,?_,?_,?_,?_,?_,?_,?_,?_,?_,?_,?_,?_,?_,?_,?_,?_,?_,?_,?_,?_,?_,?_,?_,?_,?_,?_,?_,?_,?_,?_,?_,?_,?_,?_,?_,?_,?_,?_,?_,?_,?_,?_,?_,?_,?_,?_,?_,?_,?_,?_,?_,?_,?_,?_,?_,?_,?_,?_,?_,?_,?_,?_,?_,?_,?_,?_,?_,?_,?_,?_,Zt⟩
 exact O1 q (fun _ => q) q q
 refine ⟨fun F => ?_,Zt⟩
 exact Zq (y_build p41 z41 q q) q (Zd q q q)
 refine ⟨fun F => ?_,Zt⟩
 exact Zq (y_nest (xs:=(V41 r181.1)) (ys:=z19) q41 q (Le.agd (Zs _)) q (Le.agd (Zs _)) q q q) q (Zd q q q)
 refine ⟨fun F => ?_,Zt⟩
 exact Rl 1 q (WL.cast 73 q (Le.ofd (Cb hb11)) (WL.done2 q q q))
 exact O1 q (fun _ => q) q q
 exact O1 q (fun _ => q) q q
 refine ⟨fun F => ?_,Zt⟩
 exact Zy (y_nest (xs:=(V41 r183.1)) (ys:=(V41 r181.1)) q41 q (Le.agd (Zs _)) q (Le.agd (Zs _)) q q q) q q q (Zd q q q)
 exact O1 q (fun _ => q) q q
 refine ⟨fun F => ?_,Zt⟩
 exact Rl 1 q (WL.cast 78 q (Le.ofd (Cb hb12)) (WL.done2 q q q))
 exact O1 q (fun _ => q) q q
 exact O1 q (fun _ => q) q q
 refine ⟨fun F => ?_,Zt⟩
 exact Zy (y_nest (xs:=(V41 r185.1)) (ys:=(V41 r181.1)) q41 q (Le.agd (Zs _)) q (Le.agd (Zs _)) q q q) q q q (Zd q q q)
 exact O1 q (fun _ => q) q q
 refine ⟨fun F => ?_,Zt⟩
 exact Rl 1 q (WL.cast 83 q (Le.ofd (Cb hb13)) (WL.done2 q q q))
 exact O1 q (fun _ => q) q q
 refine ⟨fun F => ?_,Zt⟩
 exact Zy (y_len_map E58 r181.2.1 e50 q q Zl) q q q (Zd q q q)
 exact O1 q (fun _ => q) q q
 refine ⟨fun F => ?_,Zt⟩
 exact Zy (y_len_map E58 r183.2.1 e50 q q Zl) q q q (Zd q q q)
 exact O1 q (fun _ => q) q q
 exact O1 q (fun _ => q) q q
 exact O1 q (fun _ => q) q q
 refine ⟨fun F => ?_,Zt⟩
 exact Rl 1 q (WL.cast 91 q (Le.ofd (Cb hb14)) (WL.done2 q q q))
 exact O1 q (fun _ => q) q q
 exact O1 q (fun _ => q) q q
 exact O1 q (fun _ => q) q q
 refine ⟨fun F => ?_,Zt⟩
 exact Rl 1 q (WL.cast 95 q (Le.ofd (Cb hb15)) (WL.done2 q q q))
 exact O1 q (fun _ => q) q q
 exact O1 q (fun _ => q) q q
 exact O1 q (fun _ => q) q q
 refine ⟨fun F => ?_,Zt⟩
 exact Rl 1 q (WL.cast 99 q (Le.ofd (Cb hb16)) (WL.done2 q q q))
 exact O1 q (fun _ => q) q q
 exact O1 q (fun _ => q) q q
 exact O1 q (fun _ => q) q q
 refine ⟨fun F => ?_,Zt⟩
 exact Rl 1 q (WL.cast 103 q (Le.ofd (Cb hb17)) (WL.done2 q q q))
 exact O1 q (fun _ => q) q q
 exact O1 q (fun _ => q) q q
 exact O1 q (fun _ => q) q q
 refine ⟨fun F => ?_,Zt⟩
 exact Rl 1 q (WL.cast 107 q (Le.ofd (Cb hb18)) (WL.done2 q q q))
 exact O1 q (fun _ => q) q q
 exact O1 q (fun _ => q) q q
 exact O1 q (fun _ => q) q q
 refine ⟨fun F => ?_,Zt⟩
 exact Rl 1 q (WL.cast 111 q (Le.ofd (Cb hb19)) (WL.done2 q q q))
 exact O1 q (fun _ => q) q q
 exact O1 q (fun _ => q) q q
 exact O1 q (fun _ => q) q q
 exact O1 q (fun _ => q) q q
 exact O1 q (fun _ => q) q q
 exact O1 q (fun _ => q) q q
 exact O1 q (fun _ => q) q q
 exact O1 q (fun _ => q) q q
 exact O1 q (fun _ => q) q q
 exact O1 q (fun _ => q) q q
 exact O1 q (fun _ => q) q q
 exact O1 q (fun _ => q) q q
 exact O1 q (fun _ => q) q q
 exact O1 q (fun _ => q) q q
 exact O1 q (fun _ => q) q q
 exact O1 q (fun _ => q) q q
 exact O1 q (fun _ => q) q q
 exact O1 q (fun _ => q) q q
 exact O1 q (fun _ => q) q q
 exact O1 q (fun _ => q) q q
 exact O1 q (fun _ => q) q q
 exact O1 q (fun _ => q) q q
 exact O1 q (fun _ => q) q q
 exact O1 q (fun _ => q) q q
 exact O1 q (fun _ => q) q q
 exact O1 q (fun _ => q) q q
 exact O1 q (fun _ => q) q q
 exact O1 q (fun _ => q) q q
 exact O1 q (fun _ => q) q q
 exact O1 q (fun _ => q) q q
 exact O1 q (fun _ => q) q q
 exact O1 q (fun _ => q) q q
 exact O1 q (fun _ => q) q q
 exact En1 h
 replace h:=condF h hb19
 obtain ⟨r191,hr191,h⟩:=bindS h
 rcases boolCases (!decide (r191 = 1)) with hb20 | hb20
 replace h:=condT h hb20
 apply RT [_,_,_,_,_,_,_,_,_,_,_,_,_,_,_,_,_,_,_,_,_,_,_,_,_,_,_,_,_,_,_,_,_,_,_,_,_,_,_,_,_,_,_,_,_,_,_,_,_,_,_,_,_,_,_,_,_,_,_,_,_,_,_,_,_,_,_,_,_,_,_,_,_,_,_] [] [] [([],[12],[0]),([],[],[0]),([0,1],[],[0]),([2],[],[0]),([3],[15],[0]),([3],[12],[0]),([4,5,3],[],[0]),([3,6],[],[0]),([7],[],[0]),([8],[18],[0]),([8],[12],[0]),([9,10,8],[],[0]),([8,11],[],[0]),([12],[],[0]),([13],[13],[0]),([14,13],[],[0]),([13],[16],[0]),([16,13],[],[0]),([15,17,13],[],[0]),([18,13],[],[0]),([13,19],[],[0]),([20],[],[0]),([21],[20],[0]),([22,21],[],[0]),([21,23],[],[0]),([24],[],[0]),([25],[14],[0]),([26,25],[],[0]),([25,27],[],[0]),([28],[],[0]),([29],[17],[0]),([30,29],[],[0]),([29,31],[],[0]),([32],[],[0]),([33],[19],[0]),([34,33],[],[0]),([33,35],[],[0]),([36],[],[0]),([37],[21],[0]),([38,37],[],[0]),([37,39],[],[0]),([40],[],[0]),([41],[10],[0]),([41],[11],[0]),([42,43,41],[],[0]),([44,41],[],[0]),([41],[1],[0]),([41],[2],[0]),([41],[3],[0]),([45,46,47,48,41],[],[0]),([49,41],[],[0]),([41,50],[],[0]),([51],[],[0]),([52],[],[0]),([52],[],[0]),([52],[],[0]),([52],[],[0]),([52],[],[0]),([52],[],[0]),([52],[],[0]),([52],[],[0]),([52],[],[0]),([52],[],[0]),([52],[],[0]),([52],[],[0]),([52],[],[0]),([52],[],[0]),([52],[],[0]),([52],[],[0]),([52],[],[0]),([52],[],[0]),([52],[],[0]),([52],[],[0]),([52],[],[0]),([52,73],[],[0])] (by kernel_rfl) (by kernel_rfl) q q
 refine ⟨?_,?_,?_,?_,?_,?_,?_,?_,?_,?_,?_,?_,?_,?_,?_,?_,?_,?_,?_,?_,?_,?_,?_,?_,?_,?_,?_,?_,?_,?_,?_,?_,?_,?_,?_,?_,?_,?_,?_,?_,?_,?_,?_,?_,?_,?_,?_,?_,?_,?_,?_,?_,?_,?_,?_,?_,?_,?_,?_,?_,?_,?_,?_,?_,?_,?_,?_,?_,?_,?_,?_,?_,?_,?_,?_,Zt⟩
 exact O1 q (fun _ => q) q q
 refine ⟨fun F => ?_,Zt⟩
 exact Zq (y_build p41 z41 q q) q (Zd q q q)
 refine ⟨fun F => ?_,Zt⟩
 exact Zq (y_nest (xs:=(V41 r181.1)) (ys:=z19) q41 q (Le.agd (Zs _)) q (Le.agd (Zs _)) q q q) q (Zd q q q)
 refine ⟨fun F => ?_,Zt⟩
 exact Rl 1 q (WL.cast 73 q (Le.ofd (Cb hb11)) (WL.done2 q q q))
 exact O1 q (fun _ => q) q q
 exact O1 q (fun _ => q) q q
 refine ⟨fun F => ?_,Zt⟩
 exact Zy (y_nest (xs:=(V41 r183.1)) (ys:=(V41 r181.1)) q41 q (Le.agd (Zs _)) q (Le.agd (Zs _)) q q q) q q q (Zd q q q)
 exact O1 q (fun _ => q) q q
 refine ⟨fun F => ?_,Zt⟩
 exact Rl 1 q (WL.cast 78 q (Le.ofd (Cb hb12)) (WL.done2 q q q))
 exact O1 q (fun _ => q) q q
 exact O1 q (fun _ => q) q q
 refine ⟨fun F => ?_,Zt⟩
 exact Zy (y_nest (xs:=(V41 r185.1)) (ys:=(V41 r181.1)) q41 q (Le.agd (Zs _)) q (Le.agd (Zs _)) q q q) q q q (Zd q q q)
 exact O1 q (fun _ => q) q q
 refine ⟨fun F => ?_,Zt⟩
 exact Rl 1 q (WL.cast 83 q (Le.ofd (Cb hb13)) (WL.done2 q q q))
 exact O1 q (fun _ => q) q q
 refine ⟨fun F => ?_,Zt⟩
 exact Zy (y_len_map E58 r181.2.1 e50 q q Zl) q q q (Zd q q q)
 exact O1 q (fun _ => q) q q
 refine ⟨fun F => ?_,Zt⟩
 exact Zy (y_len_map E58 r183.2.1 e50 q q Zl) q q q (Zd q q q)
 exact O1 q (fun _ => q) q q
 exact O1 q (fun _ => q) q q
 exact O1 q (fun _ => q) q q
 refine ⟨fun F => ?_,Zt⟩
 exact Rl 1 q (WL.cast 91 q (Le.ofd (Cb hb14)) (WL.done2 q q q))
 exact O1 q (fun _ => q) q q
 exact O1 q (fun _ => q) q q
 exact O1 q (fun _ => q) q q
 refine ⟨fun F => ?_,Zt⟩
 exact Rl 1 q (WL.cast 95 q (Le.ofd (Cb hb15)) (WL.done2 q q q))
 exact O1 q (fun _ => q) q q
 exact O1 q (fun _ => q) q q
 exact O1 q (fun _ => q) q q
 refine ⟨fun F => ?_,Zt⟩
 exact Rl 1 q (WL.cast 99 q (Le.ofd (Cb hb16)) (WL.done2 q q q))
 exact O1 q (fun _ => q) q q
 exact O1 q (fun _ => q) q q
 exact O1 q (fun _ => q) q q
 refine ⟨fun F => ?_,Zt⟩
 exact Rl 1 q (WL.cast 103 q (Le.ofd (Cb hb17)) (WL.done2 q q q))
 exact O1 q (fun _ => q) q q
 exact O1 q (fun _ => q) q q
 exact O1 q (fun _ => q) q q
 refine ⟨fun F => ?_,Zt⟩
 exact Rl 1 q (WL.cast 107 q (Le.ofd (Cb hb18)) (WL.done2 q q q))
 exact O1 q (fun _ => q) q q
 exact O1 q (fun _ => q) q q
 exact O1 q (fun _ => q) q q
 refine ⟨fun F => ?_,Zt⟩
 exact Rl 1 q (WL.cast 111 q (Le.ofd (Cb hb19)) (WL.done2 q q q))
 exact O1 q (fun _ => q) q q
 exact O1 q (fun _ => q) q q
 refine ⟨fun F => ?_,Zt⟩
 exact Zy (y_indexAddr_os e91 q q q (by decide) (by decide)) q q q (Zd q q q)
 refine ⟨fun F => ?_,Zt⟩
 exact Zy (y_load_pe q q a46 q) q q q (Zd q q q)
 exact O1 q (fun _ => q) q q
 exact O1 q (fun _ => q) q q
 exact O1 q (fun _ => q) q q
 refine ⟨fun F => ?_,Zt⟩
 refine WL.wing [] q q q q (f26z_c _ _ _ hr191) ⟨Zl,Zl,Zl,Zl,Zt⟩ q (by decide) q Zt q q (Wt.yes q q q) q q (fun r' new hS => ?_)
 obtain ⟨rfl,rfl⟩:=hS
 refine ⟨_,_,q,q,q,q,?_⟩
 exact Zd q q q
 exact O1 q (fun _ => q) q q
 exact O1 q (fun _ => q) q q
 refine ⟨fun F => ?_,Zt⟩
 exact Rl 1 q (WL.cast 122 q (Le.ofd (Cb hb20)) (WL.done2 q q q))
 exact O1 q (fun _ => q) q q
 exact O1 q (fun _ => q) q q
 exact O1 q (fun _ => q) q q
 exact O1 q (fun _ => q) q q
 exact O1 q (fun _ => q) q q
 exact O1 q (fun _ => q) q q
 exact O1 q (fun _ => q) q q
 exact O1 q (fun _ => q) q q
 exact O1 q (fun _ => q) q q
 exact O1 q (fun _ => q) q q
 exact O1 q (fun _ => q) q q
 exact O1 q (fun _ => q) q q
 exact O1 q (fun _ => q) q q
 exact O1 q (fun _ => q) q q
 exact O1 q (fun _ => q) q q
 exact O1 q (fun _ => q) q q
 exact O1 q (fun _ => q) q q
 exact O1 q (fun _ => q) q q
 exact O1 q (fun _ => q) q q
 exact O1 q (fun _ => q) q q
 exact O1 q (fun _ => q) q q
 exact O1 q (fun _ => q) q q
 exact En1 h
 replace h:=condF h hb20
 obtain ⟨r193,hr193,h⟩:=bindS h
 obtain ⟨r195,hr195,h⟩:=bindS h
 obtain ⟨r197,hr197,h⟩:=bindS h
 apply RT [_,_,_,_,_,_,_,_,_,_,_,_,_,_,_,_,_,_,_,_,_,_,_,_,_,_,_,_,_,_,_,_,_,_,_,_,_,_,_,_,_,_,_,_,_,_,_,_,_,_,_,_,_,_,_,_,_,_,_,_,_,_,_,_,_,_,_,_,_,_,_,_,_,_,_] [] [] [([],[12],[0]),([],[],[0]),([0,1],[],[0]),([2],[],[0]),([3],[15],[0]),([3],[12],[0]),([4,5,3],[],[0]),([3,6],[],[0]),([7],[],[0]),([8],[18],[0]),([8],[12],[0]),([9,10,8],[],[0]),([8,11],[],[0]),([12],[],[0]),([13],[13],[0]),([14,13],[],[0]),([13],[16],[0]),([16,13],[],[0]),([15,17,13],[],[0]),([18,13],[],[0]),([13,19],[],[0]),([20],[],[0]),([21],[20],[0]),([22,21],[],[0]),([21,23],[],[0]),([24],[],[0]),([25],[14],[0]),([26,25],[],[0]),([25,27],[],[0]),([28],[],[0]),([29],[17],[0]),([30,29],[],[0]),([29,31],[],[0]),([32],[],[0]),([33],[19],[0]),([34,33],[],[0]),([33,35],[],[0]),([36],[],[0]),([37],[21],[0]),([38,37],[],[0]),([37,39],[],[0]),([40],[],[0]),([41],[10],[0]),([41],[11],[0]),([42,43,41],[],[0]),([44,41],[],[0]),([41],[1],[0]),([41],[2],[0]),([41],[3],[0]),([45,46,47,48,41],[],[0]),([49,41],[],[0]),([41,50],[],[0]),([51],[],[0]),([52],[10],[0]),([52],[11],[0]),([53,54,52],[],[0]),([55,52],[],[0]),([56,52],[],[0]),([57,52],[],[0]),([52],[10],[0]),([52],[11],[0]),([59,60,52],[],[0]),([61,52],[],[0]),([62,52],[],[0]),([63,52],[],[0]),([58,64,52],[],[0]),([52],[10],[0]),([52],[11],[0]),([66,67,52],[],[0]),([68,52],[],[0]),([69,52],[],[0]),([70,52],[],[0]),([65,71,52],[],[0]),([72,52],[],[0]),([52,73],[],[0])] (by kernel_rfl) (by kernel_rfl) q q
 refine ⟨?_,?_,?_,?_,?_,?_,?_,?_,?_,?_,?_,?_,?_,?_,?_,?_,?_,?_,?_,?_,?_,?_,?_,?_,?_,?_,?_,?_,?_,?_,?_,?_,?_,?_,?_,?_,?_,?_,?_,?_,?_,?_,?_,?_,?_,?_,?_,?_,?_,?_,?_,?_,?_,?_,?_,?_,?_,?_,?_,?_,?_,?_,?_,?_,?_,?_,?_,?_,?_,?_,?_,?_,?_,?_,?_,Zt⟩
 exact O1 q (fun _ => q) q q
 refine ⟨fun F => ?_,Zt⟩
 exact Zq (y_build p41 z41 q q) q (Zd q q q)
 refine ⟨fun F => ?_,Zt⟩
 exact Zq (y_nest (xs:=(V41 r181.1)) (ys:=z19) q41 q (Le.agd (Zs _)) q (Le.agd (Zs _)) q q q) q (Zd q q q)
 refine ⟨fun F => ?_,Zt⟩
 exact Rl 1 q (WL.cast 73 q (Le.ofd (Cb hb11)) (WL.done2 q q q))
 exact O1 q (fun _ => q) q q
 exact O1 q (fun _ => q) q q
 refine ⟨fun F => ?_,Zt⟩
 exact Zy (y_nest (xs:=(V41 r183.1)) (ys:=(V41 r181.1)) q41 q (Le.agd (Zs _)) q (Le.agd (Zs _)) q q q) q q q (Zd q q q)
 exact O1 q (fun _ => q) q q
 refine ⟨fun F => ?_,Zt⟩
 exact Rl 1 q (WL.cast 78 q (Le.ofd (Cb hb12)) (WL.done2 q q q))
 exact O1 q (fun _ => q) q q
 exact O1 q (fun _ => q) q q
 refine ⟨fun F => ?_,Zt⟩
 exact Zy (y_nest (xs:=(V41 r185.1)) (ys:=(V41 r181.1)) q41 q (Le.agd (Zs _)) q (Le.agd (Zs _)) q q q) q q q (Zd q q q)
 exact O1 q (fun _ => q) q q
 refine ⟨fun F => ?_,Zt⟩
 exact Rl 1 q (WL.cast 83 q (Le.ofd (Cb hb13)) (WL.done2 q q q))
 exact O1 q (fun _ => q) q q
 refine ⟨fun F => ?_,Zt⟩
 exact Zy (y_len_map E58 r181.2.1 e50 q q Zl) q q q (Zd q q q)
 exact O1 q (fun _ => q) q q
 refine ⟨fun F => ?_,Zt⟩
 exact Zy (y_len_map E58 r183.2.1 e50 q q Zl) q q q (Zd q q q)
 exact O1 q (fun _ => q) q q
 exact O1 q (fun _ => q) q q
 exact O1 q (fun _ => q) q q
 refine ⟨fun F => ?_,Zt⟩
 exact Rl 1 q (WL.cast 91 q (Le.ofd (Cb hb14)) (WL.done2 q q q))
 exact O1 q (fun _ => q) q q
 exact O1 q (fun _ => q) q q
 exact O1 q (fun _ => q) q q
 refine ⟨fun F => ?_,Zt⟩
 exact Rl 1 q (WL.cast 95 q (Le.ofd (Cb hb15)) (WL.done2 q q q))
 exact O1 q (fun _ => q) q q
 exact O1 q (fun _ => q) q q
 exact O1 q (fun _ => q) q q
 refine ⟨fun F => ?_,Zt⟩
 exact Rl 1 q (WL.cast 99 q (Le.ofd (Cb hb16)) (WL.done2 q q q))
 exact O1 q (fun _ => q) q q
 exact O1 q (fun _ => q) q q
 exact O1 q (fun _ => q) q q
 refine ⟨fun F => ?_,Zt⟩
 exact Rl 1 q (WL.cast 103 q (Le.ofd (Cb hb17)) (WL.done2 q q q))
 exact O1 q (fun _ => q) q q
 exact O1 q (fun _ => q) q q
 exact O1 q (fun _ => q) q q
 refine ⟨fun F => ?_,Zt⟩
 exact Rl 1 q (WL.cast 107 q (Le.ofd (Cb hb18)) (WL.done2 q q q))
 exact O1 q (fun _ => q) q q
 exact O1 q (fun _ => q) q q
 exact O1 q (fun _ => q) q q
 refine ⟨fun F => ?_,Zt⟩
 exact Rl 1 q (WL.cast 111 q (Le.ofd (Cb hb19)) (WL.done2 q q q))
 exact O1 q (fun _ => q) q q
 exact O1 q (fun _ => q) q q
 refine ⟨fun F => ?_,Zt⟩
 exact Zy (y_indexAddr_os e91 q q q (by decide) (by decide)) q q q (Zd q q q)
 refine ⟨fun F => ?_,Zt⟩
 exact Zy (y_load_pe q q a46 q) q q q (Zd q q q)
 exact O1 q (fun _ => q) q q
 exact O1 q (fun _ => q) q q
 exact O1 q (fun _ => q) q q
 refine ⟨fun F => ?_,Zt⟩
 refine WL.wing [] q q q q (f26z_c _ _ _ hr191) ⟨Zl,Zl,Zl,Zl,Zt⟩ q (by decide) q Zt q q (Wt.yes q q q) q q (fun r' new hS => ?_)
 obtain ⟨rfl,rfl⟩:=hS
 refine ⟨_,_,q,q,q,q,?_⟩
 exact Zd q q q
 exact O1 q (fun _ => q) q q
 exact O1 q (fun _ => q) q q
 refine ⟨fun F => ?_,Zt⟩
 exact Rl 1 q (WL.cast 122 q (Le.ofd (Cb hb20)) (WL.done2 q q q))
 exact O1 q (fun _ => q) q q
 exact O1 q (fun _ => q) q q
 refine ⟨fun F => ?_,Zt⟩
 exact Zy (y_indexAddr_os e91 q q q (by decide) (by decide)) q q q (Zd q q q)
 refine ⟨fun F => ?_,Zt⟩
 exact Zy (y_load_pe q q a46 q) q q q (Zd q q q)
 refine ⟨fun F => ?_,Zt⟩
 refine WL.wing [] q q q q (f28z_c  hr193) ⟨Zl,Zt⟩ q (by decide) q Zt q q (Wt.yes q q q) q q (fun r' new hS => ?_)
 obtain ⟨rfl,rfl⟩:=hS
 refine ⟨_,_,q,q,q,q,?_⟩
 exact Zd q q q
 refine ⟨fun F => ?_,Zt⟩
 exact Zy (y_len_map E42 r193 e62 q q Zl) q q q (Zd q q q)
 exact O1 q (fun _ => q) q q
 exact O1 q (fun _ => q) q q
 refine ⟨fun F => ?_,Zt⟩
 exact Zy (y_indexAddr_os e91 q q q (by decide) (by decide)) q q q (Zd q q q)
 refine ⟨fun F => ?_,Zt⟩
 exact Zy (y_load_pe q q a46 q) q q q (Zd q q q)
 refine ⟨fun F => ?_,Zt⟩
 refine WL.wing [] q q q q (f13z_c  hr195) ⟨Zl,Zt⟩ q (by decide) q Zt q q (Wt.yes q q q) q q (fun r' new hS => ?_)
 obtain ⟨rfl,rfl⟩:=hS
 refine ⟨_,_,q,q,q,q,?_⟩
 exact Zd q q q
 refine ⟨fun F => ?_,Zt⟩
 exact Zy (y_len_map E2 r195 e42 q q Zl) q q q (Zd q q q)
 exact O1 q (fun _ => q) q q
 exact O1 q (fun _ => q) q q
 exact O1 q (fun _ => q) q q
 refine ⟨fun F => ?_,Zt⟩
 exact Zy (y_indexAddr_os e91 q q q (by decide) (by decide)) q q q (Zd q q q)
 refine ⟨fun F => ?_,Zt⟩
 exact Zy (y_load_pe q q a46 q) q q q (Zd q q q)
 refine ⟨fun F => ?_,Zt⟩
 refine WL.wing [] q q q q (f15z_c  hr197) ⟨Zl,Zt⟩ q (by decide) q Zt q q (Wt.yes q q q) q q (fun r' new hS => ?_)
 obtain ⟨rfl,rfl⟩:=hS
 refine ⟨_,_,q,q,q,q,?_⟩
 exact Zd q q q
 refine ⟨fun F => ?_,Zt⟩
 exact Zy (y_len_map E2 r197 e42 q q Zl) q q q (Zd q q q)
 exact O1 q (fun _ => q) q q
 exact O1 q (fun _ => q) q q
 exact O1 q (fun _ => q) q q
 exact En1 h
 refine Ci h q (fun h => ?_) (fun h => ?_)
 exact Rcx 8 q (we_rl_ret (Rxx 2 q (FA h)))
 refine Rcl 5 q (Zq (y_add q q (c:=1) (by decide)) q (Rlx 2 q (we_rl (WC.sub (env':=[(1,.n o1),(2,.n k2),(3,.n v3),(4,.d (.pc (R41 r0))),(10,.os 4 0),(11,.n 1)]) (Sub.one q (Sub.one q (Sub.one q (Sub.one q (Sub.one q (Sub.one q (Sub.nil _))))))) (Rcl 5 q (Zq (y_len_os e91 q q q) q (Rlc 3 q (wc_true q (Rcc 5 q (Gh.wc gh_rsv ?_))))))))))
 obtain ⟨r199,hr199,h⟩:=bindS h
 refine WC.weak (st':=[.row 90 [.l E45 [],.l E108 [],.l E101 [],.n 0,.os 1 0,.l E2 [],.os 3 0],.os 42 1 0 (famE 2 0 (List.length ([] : List (List Int)))),.fam 2 1 0 (famM E2 ([] : List (List Int))),.os 2 1 0 (eM E2 ([] : List Int)),.os 46 1 0 [[.d (.v (.pointer none))],[.pt 0 0]],.row 41 (vecA 16 (fun j => .n (r181.1.r j)) ++ ([.n r181.1.pc,.n r181.1.exc,.n r181.1.defer] : List AV)),.row 41 (vecA 16 (fun j => .n (r183.1.r j)) ++ ([.n r183.1.pc,.n r183.1.exc,.n r183.1.defer] : List AV)),.row 41 (vecA 16 (fun j => .n (r185.1.r j)) ++ ([.n r185.1.pc,.n r185.1.exc,.n r185.1.defer] : List AV)),.rsv]) Tv ?_
 apply RSx [_,_,_,_,_,_,_,_,_,_,_,.u,_,_] [5,10,11] (0,0) (fun (x : Nat × Nat) => (tblB [([false,false,false],[.row 90 [.l E45 [],.l E108 [],.l E101 [],.n 0,.os 1 0,.l E2 [],.os 3 0],.os 42 1 0 (famE 2 0 (List.length ([] : List (List Int)))),.fam 2 1 0 (famM E2 ([] : List (List Int))),.os 2 1 0 (eM E2 ([] : List Int)),.os 46 1 0 [[.d (.v (.pointer none))],[.pt 0 0]],.row 41 (vecA 16 (fun j => .n (r181.1.r j)) ++ ([.n r181.1.pc,.n r181.1.exc,.n r181.1.defer] : List AV)),.row 41 (vecA 16 (fun j => .n (r183.1.r j)) ++ ([.n r183.1.pc,.n r183.1.exc,.n r183.1.defer] : List AV)),.row 41 (vecA 16 (fun j => .n (r185.1.r j)) ++ ([.n r185.1.pc,.n r185.1.exc,.n r185.1.defer] : List AV)),.rsv]),([false,true,false],[.row 90 [.l E45 [],.l E108 [],.l E101 [],.n 0,.os 1 0,.l E2 [],.os 3 0],.os 42 1 0 (famE 2 0 (List.length ([] : List (List Int)))),.fam 2 1 0 (famM E2 ([] : List (List Int))),.os 2 1 0 (eM E2 ([] : List Int)),.os 46 1 0 [[.d (.v (.pointer none))],[.pt 0 0]],.row 41 (vecA 16 (fun j => .n (r181.1.r j)) ++ ([.n r181.1.pc,.n r181.1.exc,.n r181.1.defer] : List AV)),.row 41 (vecA 16 (fun j => .n (r183.1.r j)) ++ ([.n r183.1.pc,.n r183.1.exc,.n r183.1.defer] : List AV)),.row 41 (vecA 16 (fun j => .n (r185.1.r j)) ++ ([.n r185.1.pc,.n r185.1.exc,.n r185.1.defer] : List AV)),.row 41 n19]),([true,false,false],[.row 90 [.l E45 [],.l E108 [],.l E101 [],.n 0,.os 1 0,.l E2 r199.2.2.2.1,.os 3 x.2],.os 42 1 0 (famE 2 x.1 (List.length r199.2.2.2.2.1)),.fam 2 1 x.1 (famM E2 r199.2.2.2.2.1),.os 2 1 x.2 (eM E2 r199.2.2.2.2.2),.os 46 1 0 [[.d (.v (.pointer none))],[.pt 0 0]],.row 41 (vecA 16 (fun j => .n (r181.1.r j)) ++ ([.n r181.1.pc,.n r181.1.exc,.n r181.1.defer] : List AV)),.row 41 (vecA 16 (fun j => .n (r183.1.r j)) ++ ([.n r183.1.pc,.n r183.1.exc,.n r183.1.defer] : List AV)),.row 41 (vecA 16 (fun j => .n (r185.1.r j)) ++ ([.n r185.1.pc,.n r185.1.exc,.n r185.1.defer] : List AV)),.rsv]),([true,true,false],[.row 90 [.l E45 [],.l E108 [],.l E101 [],.n 0,.os 1 0,.l E2 r199.2.2.2.1,.os 3 x.2],.os 42 1 0 (famE 2 x.1 (List.length r199.2.2.2.2.1)),.fam 2 1 x.1 (famM E2 r199.2.2.2.2.1),.os 2 1 x.2 (eM E2 r199.2.2.2.2.2),.os 46 1 0 [[.d (.v (.pointer none))],[.pt 0 0]],.row 41 (vecA 16 (fun j => .n (r181.1.r j)) ++ ([.n r181.1.pc,.n r181.1.exc,.n r181.1.defer] : List AV)),.row 41 (vecA 16 (fun j => .n (r183.1.r j)) ++ ([.n r183.1.pc,.n r183.1.exc,.n r183.1.defer] : List AV)),.row 41 (vecA 16 (fun j => .n (r185.1.r j)) ++ ([.n r185.1.pc,.n r185.1.exc,.n r185.1.defer] : List AV)),.row 41 n19]),([true,true,true],[.row 90 [.l E45 [],.l E108 [],.l E101 [],.n 0,.os 1 0,.l E2 r199.2.2.2.1,.os 3 x.2],.os 42 1 0 (famE 2 x.1 (List.length r199.2.2.2.2.1)),.fam 2 1 x.1 (famM E2 r199.2.2.2.2.1),.os 2 1 x.2 (eM E2 r199.2.2.2.2.2),.os 46 1 0 [[.d (.v (.pointer none))],[.pt 0 0]],.row 41 (vecA 16 (fun j => .n (r181.1.r j)) ++ ([.n r181.1.pc,.n r181.1.exc,.n r181.1.defer] : List AV)),.row 41 (vecA 16 (fun j => .n (r183.1.r j)) ++ ([.n r183.1.pc,.n r183.1.exc,.n r183.1.defer] : List AV)),.row 41 (vecA 16 (fun j => .n (r185.1.r j)) ++ ([.n r185.1.pc,.n r185.1.exc,.n r185.1.defer] : List AV)),.row 41 (vecA 16 (fun j => .n (r199.1.r j)) ++ ([.n r199.1.pc,.n r199.1.exc,.n r199.1.defer] : List AV))])])) [([],[10],[[false,false,false],[false,true,false]]),([],[11],[[false,false,false],[false,true,false]]),([0,1],[],[[false,false,false],[false,true,false]]),([2],[],[[false,false,false],[false,true,false]]),([],[4],[[false,false,false],[false,true,false]]),([3,4],[],[[false,false,false],[false,true,false]]),([5],[],[[true,false,false],[true,true,false]]),([6],[],[[true,false,false],[true,true,false]]),([6],[],[[true,false,false],[true,true,false],[true,true,true]]),([6],[],[[true,false,false],[true,true,false],[true,true,true]]),([],[],[[false,false,false],[true,false,false]]),([10,7],[],[[true,true,false]]),([8],[],[[true,true,true]]),([9],[],[[true,true,true]])] (by kernel_rfl) (by kernel_rfl) q q q
 refine ⟨?_,?_,?_,?_,?_,?_,?_,?_,?_,?_,?_,?_,?_,?_,Zt⟩
 exact ⟨Ox fun x => O3 q (fun _ => q) q q,Ox fun x => O3 q (fun _ => q) q q,Zt⟩
 exact ⟨Ox fun x => O3 q (fun _ => q) q q,Ox fun x => O3 q (fun _ => q) q q,Zt⟩
 refine ⟨Ox fun x F => ?_,Ox fun x F => ?_,Zt⟩
 exact Zq (y_indexAddr_os e91 q q q (by decide) (by decide)) q (Zd q q q)
 exact Zq (y_indexAddr_os e91 q q q (by decide) (by decide)) q (Zd q q q)
 refine ⟨Ox fun x F => ?_,Ox fun x F => ?_,Zt⟩
 exact Zq (y_load_pe q q a46 q) q (Zd q q q)
 exact Zq (y_load_pe q q a46 q) q (Zd q q q)
 exact ⟨Ox fun x => O3 q (fun _ => q) q q,Ox fun x => O3 q (fun _ => q) q q,Zt⟩
 refine ⟨Oy fun x F => ?_,Oy fun x F => ?_,Zt⟩
 refine WL.wing [0,1,2,3] q q q q (f11_c _ _ _ _ _ _ _ _ hr199) ⟨Zl,Zl,Zt⟩ q (by decide) (Re (Rg (Rf (Ro q)))) ⟨q,q,q,q,Zt⟩ Kv q (Zw q) q q (fun r' new hS => ?_)
 obtain ⟨i2_200,i3_200,rfl,rfl⟩:=hS
 refine ⟨_,_,q,(Re (Rg (Rf (Ro q)))),q,Kv,?_⟩
 exact Zx (i2_200,i3_200) q q q
 refine WL.wing [0,1,2,3] q q q q (f11_c _ _ _ _ _ _ _ _ hr199) ⟨Zl,Zl,Zt⟩ q (by decide) (Re (Rg (Rf (Ro q)))) ⟨q,q,q,q,Zt⟩ Kv q (Zw q) q q (fun r' new hS => ?_)
 obtain ⟨i2_200,i3_200,rfl,rfl⟩:=hS
 refine ⟨_,_,q,(Re (Rg (Rf (Ro q)))),q,Kv,?_⟩
 exact Zx (i2_200,i3_200) q q q
 exact ⟨Ox fun x => O3 q (fun _ => q) q q,Ox fun x => O3 q (fun _ => q) q q,Zt⟩
 exact ⟨Ox fun x => O3 q (fun _ => q) q q,Ox fun x => O3 q (fun _ => q) q q,Zt⟩
 exact ⟨Ox fun x => O3 q (fun _ => q) q q,Ox fun x => O3 q (fun _ => q) q q,Ox fun x => O3 q (fun _ => q) q q,Zt⟩
 exact ⟨Ox fun x => O3 q (fun _ => q) q q,Ox fun x => O3 q (fun _ => q) q q,Ox fun x => O3 q (fun _ => q) q q,Zt⟩
 refine ⟨Ox fun x F => ?_,Ox fun x F => ?_,Zt⟩
 refine WL.s (((b_alloc z41).fill 8 q Kv (.inl ⟨_,q,q⟩)).does) (Zw q) q q ?_
 exact Zd q q q
 refine WL.s (((b_alloc z41).fill 8 q Kv (.inl ⟨_,q,q⟩)).does) (Zw q) q q ?_
 exact Zd q q q
 refine ⟨Ox fun x F => ?_,Zt⟩
 exact WL.s0 (d_store q q q q q q s41 q q) (Zw q) q (WL.done0 q q)
 exact ⟨Ox fun x => O3 q (fun _ => q) q q,Zt⟩
 exact ⟨Ox fun x => O3 q (fun _ => q) q q,Zt⟩
 rintro ⟨i2_200,i3_200⟩
 refine Rxc 2 q ?_
 obtain ⟨r201,hr201,h⟩:=bindS h
 apply RT [_,_,_,_,_,_,_,_,_,_,_,_,.u,_,_] [11,12] [[.row 90 [.l E45 [],.l E108 [],.l E101 [],.n 0,.os 1 0,.l E2 r199.2.2.2.1,.os 3 i3_200],.os 42 1 0 (famE 2 i2_200 (List.length r199.2.2.2.2.1)),.fam 2 1 i2_200 (famM E2 r199.2.2.2.2.1),.os 2 1 i3_200 (eM E2 r199.2.2.2.2.2),.os 46 1 0 [[.d (.v (.pointer none))],[.pt 0 0]],.row 41 (vecA 16 (fun j => .n (r181.1.r j)) ++ ([.n r181.1.pc,.n r181.1.exc,.n r181.1.defer] : List AV)),.row 41 (vecA 16 (fun j => .n (r183.1.r j)) ++ ([.n r183.1.pc,.n r183.1.exc,.n r183.1.defer] : List AV)),.row 41 (vecA 16 (fun j => .n (r185.1.r j)) ++ ([.n r185.1.pc,.n r185.1.exc,.n r185.1.defer] : List AV)),.row 41 (vecA 16 (fun j => .n (r199.1.r j)) ++ ([.n r199.1.pc,.n r199.1.exc,.n r199.1.defer] : List AV)),.row 41 n19],[.row 90 [.l E45 [],.l E108 [],.l E101 [],.n 0,.os 1 0,.l E2 r199.2.2.2.1,.os 3 i3_200],.os 42 1 0 (famE 2 i2_200 (List.length r199.2.2.2.2.1)),.fam 2 1 i2_200 (famM E2 r199.2.2.2.2.1),.os 2 1 i3_200 (eM E2 r199.2.2.2.2.2),.os 46 1 0 [[.d (.v (.pointer none))],[.pt 0 0]],.row 41 (vecA 16 (fun j => .n (r181.1.r j)) ++ ([.n r181.1.pc,.n r181.1.exc,.n r181.1.defer] : List AV)),.row 41 (vecA 16 (fun j => .n (r183.1.r j)) ++ ([.n r183.1.pc,.n r183.1.exc,.n r183.1.defer] : List AV)),.row 41 (vecA 16 (fun j => .n (r185.1.r j)) ++ ([.n r185.1.pc,.n r185.1.exc,.n r185.1.defer] : List AV)),.row 41 (vecA 16 (fun j => .n (r199.1.r j)) ++ ([.n r199.1.pc,.n r199.1.exc,.n r199.1.defer] : List AV)),.row 41 (vecA 16 (fun j => .n (r201.1.r j)) ++ ([.n r201.1.pc,.n r201.1.exc,.n r201.1.defer] : List AV))]] [([],[10],[0,1]),([],[11],[0,1]),([0,1],[],[0,1]),([2],[],[0,1]),([],[4],[0,1]),([],[3],[0,1]),([3,4,5],[],[0,1]),([6],[],[0,1]),([7],[],[0,1]),([7],[],[0,1,2]),([7],[],[0,1,2]),([],[],[0]),([11,8],[],[1]),([9],[],[2]),([10],[],[2])] (by kernel_rfl) (by kernel_rfl) q q
 refine ⟨?_,?_,?_,?_,?_,?_,?_,?_,?_,?_,?_,?_,?_,?_,?_,Zt⟩
 exact ⟨O2 q (fun _ => q) q q,O2 q (fun _ => q) q q,Zt⟩
 exact ⟨O2 q (fun _ => q) q q,O2 q (fun _ => q) q q,Zt⟩
 refine ⟨fun F => ?_,fun F => ?_,Zt⟩
 exact Zq (y_indexAddr_os e91 q q q (by decide) (by decide)) q (Zd q q q)
 exact Zq (y_indexAddr_os e91 q q q (by decide) (by decide)) q (Zd q q q)
 refine ⟨fun F => ?_,fun F => ?_,Zt⟩
 exact Zq (y_load_pe q q a46 q) q (Zd q q q)
 exact Zq (y_load_pe q q a46 q) q (Zd q q q)
 exact ⟨O2 q (fun _ => q) q q,O2 q (fun _ => q) q q,Zt⟩
 exact ⟨O2 q (fun _ => q) q q,O2 q (fun _ => q) q q,Zt⟩
 refine ⟨fun F => ?_,fun F => ?_,Zt⟩
 refine WL.wing [0,1,2,3] q q q q (f20_c _ _ _ _ _ _ _ _ _ hr201) ⟨Zl,Zl,Zl,Zt⟩ q (by decide) (Re (Rg (Rf (Ro q)))) ⟨q,q,q,q,Zt⟩ Kv q (Zw q) q q (fun r' new hS => ?_)
 obtain ⟨rfl,rfl⟩:=hS
 refine ⟨_,_,q,(Re (Rg (Rf (Ro q)))),q,Kv,?_⟩
 exact Zd q q q
 refine WL.wing [0,1,2,3] q q q q (f20_c _ _ _ _ _ _ _ _ _ hr201) ⟨Zl,Zl,Zl,Zt⟩ q (by decide) (Re (Rg (Rf (Ro q)))) ⟨q,q,q,q,Zt⟩ Kv q (Zw q) q q (fun r' new hS => ?_)
 obtain ⟨rfl,rfl⟩:=hS
 refine ⟨_,_,q,(Re (Rg (Rf (Ro q)))),q,Kv,?_⟩
 exact Zd q q q
 exact ⟨O2 q (fun _ => q) q q,O2 q (fun _ => q) q q,Zt⟩
 exact ⟨O2 q (fun _ => q) q q,O2 q (fun _ => q) q q,Zt⟩
 exact ⟨O2 q (fun _ => q) q q,O2 q (fun _ => q) q q,O2 q (fun _ => q) q q,Zt⟩
 exact ⟨O2 q (fun _ => q) q q,O2 q (fun _ => q) q q,O2 q (fun _ => q) q q,Zt⟩
 refine ⟨fun F => ?_,Zt⟩
 exact Al z41 q (Zd q q q)
 refine ⟨fun F => ?_,Zt⟩
 exact WL.s0 (d_store q q q q q q s41 q q) (Zw q) q (WL.done0 q q)
 exact O1 q (fun _ => q) q q
 exact O1 q (fun _ => q) q q
 refine Rxc 2 q ?_
 obtain ⟨r203,hr203,h⟩:=bindS h
 apply RT [_,_,_,_,_,_,_,_,_,_,_,.u,_] [10,11] [[.row 90 [.l E45 [],.l E108 [],.l E101 [],.n 0,.os 1 0,.l E2 r199.2.2.2.1,.os 3 i3_200],.os 42 1 0 (famE 2 i2_200 (List.length r199.2.2.2.2.1)),.fam 2 1 i2_200 (famM E2 r199.2.2.2.2.1),.os 2 1 i3_200 (eM E2 r199.2.2.2.2.2),.os 46 1 0 [[.d (.v (.pointer none))],[.pt 0 0]],.row 41 (vecA 16 (fun j => .n (r181.1.r j)) ++ ([.n r181.1.pc,.n r181.1.exc,.n r181.1.defer] : List AV)),.row 41 (vecA 16 (fun j => .n (r183.1.r j)) ++ ([.n r183.1.pc,.n r183.1.exc,.n r183.1.defer] : List AV)),.row 41 (vecA 16 (fun j => .n (r185.1.r j)) ++ ([.n r185.1.pc,.n r185.1.exc,.n r185.1.defer] : List AV)),.row 41 (vecA 16 (fun j => .n (r199.1.r j)) ++ ([.n r199.1.pc,.n r199.1.exc,.n r199.1.defer] : List AV)),.row 41 (vecA 16 (fun j => .n (r201.1.r j)) ++ ([.n r201.1.pc,.n r201.1.exc,.n r201.1.defer] : List AV)),.row 41 n19],[.row 90 [.l E45 [],.l E108 [],.l E101 [],.n 0,.os 1 0,.l E2 r199.2.2.2.1,.os 3 i3_200],.os 42 1 0 (famE 2 i2_200 (List.length r199.2.2.2.2.1)),.fam 2 1 i2_200 (famM E2 r199.2.2.2.2.1),.os 2 1 i3_200 (eM E2 r199.2.2.2.2.2),.os 46 1 0 [[.d (.v (.pointer none))],[.pt 0 0]],.row 41 (vecA 16 (fun j => .n (r181.1.r j)) ++ ([.n r181.1.pc,.n r181.1.exc,.n r181.1.defer] : List AV)),.row 41 (vecA 16 (fun j => .n (r183.1.r j)) ++ ([.n r183.1.pc,.n r183.1.exc,.n r183.1.defer] : List AV)),.row 41 (vecA 16 (fun j => .n (r185.1.r j)) ++ ([.n r185.1.pc,.n r185.1.exc,.n r185.1.defer] : List AV)),.row 41 (vecA 16 (fun j => .n (r199.1.r j)) ++ ([.n r199.1.pc,.n r199.1.exc,.n r199.1.defer] : List AV)),.row 41 (vecA 16 (fun j => .n (r201.1.r j)) ++ ([.n r201.1.pc,.n r201.1.exc,.n r201.1.defer] : List AV)),.row 41 (vecA 16 (fun j => .n (r203.1.r j)) ++ ([.n r203.1.pc,.n r203.1.exc,.n r203.1.defer] : List AV))]] [([],[10],[0,1]),([],[11],[0,1]),([0,1],[],[0,1]),([2],[],[0,1]),([],[4],[0,1]),([],[3],[0,1]),([3,4,5],[],[0,1]),([6],[],[0,1]),([7],[],[0,1]),([7],[],[0,1,2]),([],[],[0]),([10,8],[],[1]),([9],[],[2])] (by kernel_rfl) (by kernel_rfl) q q
 refine ⟨?_,?_,?_,?_,?_,?_,?_,?_,?_,?_,?_,?_,?_,Zt⟩
 exact ⟨O2 q (fun _ => q) q q,O2 q (fun _ => q) q q,Zt⟩
 exact ⟨O2 q (fun _ => q) q q,O2 q (fun _ => q) q q,Zt⟩
 refine ⟨fun F => ?_,fun F => ?_,Zt⟩
 exact Zq (y_indexAddr_os e91 q q q (by decide) (by decide)) q (Zd q q q)
 exact Zq (y_indexAddr_os e91 q q q (by decide) (by decide)) q (Zd q q q)
 refine ⟨fun F => ?_,fun F => ?_,Zt⟩
 exact Zq (y_load_pe q q a46 q) q (Zd q q q)
 exact Zq (y_load_pe q q a46 q) q (Zd q q q)
 exact ⟨O2 q (fun _ => q) q q,O2 q (fun _ => q) q q,Zt⟩
 exact ⟨O2 q (fun _ => q) q q,O2 q (fun _ => q) q q,Zt⟩
 refine ⟨fun F => ?_,fun F => ?_,Zt⟩
 refine WL.wing [0,1,2,3] q q q q (f22_c _ _ _ _ _ _ _ _ _ hr203) ⟨Zl,Zl,Zl,Zt⟩ q (by decide) (Re (Rg (Rf (Ro q)))) ⟨q,q,q,q,Zt⟩ Kv q (Zw q) q q (fun r' new hS => ?_)
 obtain ⟨rfl,rfl⟩:=hS
 refine ⟨_,_,q,(Re (Rg (Rf (Ro q)))),q,Kv,?_⟩
 exact Zd q q q
 refine WL.wing [0,1,2,3] q q q q (f22_c _ _ _ _ _ _ _ _ _ hr203) ⟨Zl,Zl,Zl,Zt⟩ q (by decide) (Re (Rg (Rf (Ro q)))) ⟨q,q,q,q,Zt⟩ Kv q (Zw q) q q (fun r' new hS => ?_)
 obtain ⟨rfl,rfl⟩:=hS
 refine ⟨_,_,q,(Re (Rg (Rf (Ro q)))),q,Kv,?_⟩
 exact Zd q q q
 exact ⟨O2 q (fun _ => q) q q,O2 q (fun _ => q) q q,Zt⟩
 exact ⟨O2 q (fun _ => q) q q,O2 q (fun _ => q) q q,Zt⟩
 exact ⟨O2 q (fun _ => q) q q,O2 q (fun _ => q) q q,O2 q (fun _ => q) q q,Zt⟩
 refine ⟨fun F => ?_,Zt⟩
 exact Al z41 q (Zd q q q)
 refine ⟨fun F => ?_,Zt⟩
 exact WL.s0 (d_store q q q q q q s41 q q) (Zw q) q (WL.done0 q q)
 exact O1 q (fun _ => q) q q
 refine Rxl 5 q (Zq (y_indexAddr_os e91 q q q (by decide) (by decide)) q (Zq (y_load_pe q q a46 q) q (Rl 2 q ?_)))
 obtain ⟨r205,hr205,h⟩:=bindS h
 refine WL.wing [0,1,2,3] q q q q (f24_c _ _ _ _ _ _ _ _ _ hr205) ⟨Zl,Zl,Zl,Zt⟩ q (by decide) (Re (Rg (Rf (Ro q)))) ⟨q,q,q,q,Zt⟩ Kv q (Zw q) q q (fun r' new hS => ?_)
 obtain ⟨rfl,rfl⟩:=hS
 refine ⟨_,_,q,(Re (Rg (Rf (Ro q)))),q,Kv,?_⟩
 refine St q (Rlc 7 q ?_)
 replace h:=letkS h
 obtain ⟨k210,hk210,h⟩:=h
 refine wc_cut (fun env' st' => ∃ (t207 : Bool),∃ (l208 : List (List Int)),∃ (ver209 : Nat),k210 t207 l208 = some r ∧ Sub [(1,.n o1),(2,.n k2),(3,.n v3),(4,.d (.pc (R41 r0))),(10,.os 4 0),(11,.n 1),(144,.d (D.b t207))] env' ∧ SLe st' [.row 90 [.l E45 [],.l E108 [],.l E101 [],.n 0,.os 1 0,.l E2 r199.2.2.2.1,.os 3 i3_200],.os 42 1 0 (famE 2 ver209 (List.length l208)),.fam 2 1 ver209 (famM E2 l208),.os 2 1 i3_200 (eM E2 r199.2.2.2.2.2),.os 46 1 0 [[.d (.v (.pointer none))],[.pt 0 0]],.row 41 (vecA 16 (fun j => .n (r181.1.r j)) ++ ([.n r181.1.pc,.n r181.1.exc,.n r181.1.defer] : List AV)),.row 41 (vecA 16 (fun j => .n (r183.1.r j)) ++ ([.n r183.1.pc,.n r183.1.exc,.n r183.1.defer] : List AV)),.row 41 (vecA 16 (fun j => .n (r185.1.r j)) ++ ([.n r185.1.pc,.n r185.1.exc,.n r185.1.defer] : List AV)),.row 41 (vecA 16 (fun j => .n (r199.1.r j)) ++ ([.n r199.1.pc,.n r199.1.exc,.n r199.1.defer] : List AV)),.row 41 (vecA 16 (fun j => .n (r201.1.r j)) ++ ([.n r201.1.pc,.n r201.1.exc,.n r201.1.defer] : List AV)),.row 41 (vecA 16 (fun j => .n (r203.1.r j)) ++ ([.n r203.1.pc,.n r203.1.exc,.n r203.1.defer] : List AV))]) ?_ ?_
 rcases boolCases (!((decide ((r199.1.r 0) = 0)) && ((decide ((r199.1.r 1) = 0)) && ((decide ((r199.1.r 2) = 0)) && ((decide ((r199.1.r 3) = 0)) && ((decide ((r199.1.r 4) = 0)) && ((decide ((r199.1.r 5) = 0)) && ((decide ((r199.1.r 6) = 0)) && ((decide ((r199.1.r 7) = 0)) && ((decide ((r199.1.r 8) = 0)) && ((decide ((r199.1.r 9) = 0)) && ((decide ((r199.1.r 10) = 0)) && ((decide ((r199.1.r 11) = 0)) && ((decide ((r199.1.r 12) = 0)) && ((decide ((r199.1.r 13) = 0)) && ((decide ((r199.1.r 14) = 0)) && ((decide ((r199.1.r 15) = 0)) && ((decide (r199.1.pc = 0)) && ((decide (r199.1.exc = 0)) && ((decide (r199.1.defer = 0)) && true)))))))))))))))))))) with hb31 | hb31
 replace h:=condT h hb31
 apply RT [_,_,_,_,_,_,_,_,_,_,_,_,_,_,_,_,_,_,_,_,_,_,_,_,_,_,_,_,_,_,_,_,_,_,_,_,_,_,_,_,_,_,_,_,_,_,_,_,_,_,_,_,_,_,_,_,_,_,_,_,_,_,_,_,_,_,_,_,_,_,_,_,_,_,_] [] [] [([],[12],[0]),([],[],[0]),([0,1],[],[0]),([2],[],[0]),([3],[],[0]),([3],[],[0]),([3],[],[0]),([3,6],[],[0]),([7],[],[0]),([8],[],[0]),([8],[],[0]),([8],[],[0]),([8,11],[],[0]),([12],[],[0]),([13],[],[0]),([13],[],[0]),([13],[],[0]),([13],[],[0]),([13],[],[0]),([13],[],[0]),([13,19],[],[0]),([20],[],[0]),([21],[],[0]),([21],[],[0]),([21,23],[],[0]),([24],[],[0]),([25],[],[0]),([25],[],[0]),([25,27],[],[0]),([28],[],[0]),([29],[],[0]),([29],[],[0]),([29,31],[],[0]),([32],[],[0]),([33],[],[0]),([33],[],[0]),([33,35],[],[0]),([36],[],[0]),([37],[],[0]),([37],[],[0]),([37,39],[],[0]),([40],[],[0]),([41],[],[0]),([41],[],[0]),([41],[],[0]),([41],[],[0]),([41],[],[0]),([41],[],[0]),([41],[],[0]),([41],[],[0]),([41],[],[0]),([41,50],[],[0]),([51],[],[0]),([52],[],[0]),([52],[],[0]),([52],[],[0]),([52],[],[0]),([52],[],[0]),([52],[],[0]),([52],[],[0]),([52],[],[0]),([52],[],[0]),([52],[],[0]),([52],[],[0]),([52],[],[0]),([52],[],[0]),([52],[],[0]),([52],[],[0]),([52],[],[0]),([52],[],[0]),([52],[],[0]),([52],[],[0]),([52],[],[0]),([52],[],[0]),([52,73],[],[0])] (by kernel_rfl) (by kernel_rfl) q q
 refine ⟨?_,?_,?_,?_,?_,?_,?_,?_,?_,?_,?_,?_,?_,?_,?_,?_,?_,?_,?_,?_,?_,?_,?_,?_,?_,?_,?_,?_,?_,?_,?_,?_,?_,?_,?_,?_,?_,?_,?_,?_,?_,?_,?_,?_,?_,?_,?_,?_,?_,?_,?_,?_,?_,?_,?_,?_,?_,?_,?_,?_,?_,?_,?_,?_,?_,?_,?_,?_,?_,?_,?_,?_,?_,?_,?_,Zt⟩
 exact O1 q (fun _ => q) q q
 refine ⟨fun F => ?_,Zt⟩
 exact Zq (y_build p41 z41 q q) q (Zd q q q)
 refine ⟨fun F => ?_,Zt⟩
 exact Zq (y_nest (xs:=(V41 r199.1)) (ys:=z19) q41 q (Le.agd (Zs _)) q (Le.agd (Zs _)) q q q) q (Zd q q q)
 refine ⟨fun F => ?_,Zt⟩
 exact Rl 1 q (WL.cast 73 q (Le.ofd (Cb hb31)) (WL.done2 q q q))
 exact O1 q (fun _ => q) q q
 exact O1 q (fun _ => q) q q
 exact O1 q (fun _ => q) q q
 exact O1 q (fun _ => q) q q
 exact O1 q (fun _ => q) q q
 exact O1 q (fun _ => q) q q
 exact O1 q (fun _ => q) q q
 exact O1 q (fun _ => q) q q
 exact O1 q (fun _ => q) q q
 exact O1 q (fun _ => q) q q
 exact O1 q (fun _ => q) q q
 exact O1 q (fun _ => q) q q
 exact O1 q (fun _ => q) q q
 exact O1 q (fun _ => q) q q
 exact O1 q (fun _ => q) q q
 exact O1 q (fun _ => q) q q
 exact O1 q (fun _ => q) q q
 exact O1 q (fun _ => q) q q
 exact O1 q (fun _ => q) q q
 exact O1 q (fun _ => q) q q
 exact O1 q (fun _ => q) q q
 exact O1 q (fun _ => q) q q
 exact O1 q (fun _ => q) q q
 exact O1 q (fun _ => q) q q
 exact O1 q (fun _ => q) q q
 exact O1 q (fun _ => q) q q
 exact O1 q (fun _ => q) q q
 exact O1 q (fun _ => q) q q
 exact O1 q (fun _ => q) q q
 exact O1 q (fun _ => q) q q
 exact O1 q (fun _ => q) q q
 exact O1 q (fun _ => q) q q
 exact O1 q (fun _ => q) q q
 exact O1 q (fun _ => q) q q
 exact O1 q (fun _ => q) q q
 exact O1 q (fun _ => q) q q
 exact O1 q (fun _ => q) q q
 exact O1 q (fun _ => q) q q
 exact O1 q (fun _ => q) q q
 exact O1 q (fun _ => q) q q
 exact O1 q (fun _ => q) q q
 exact O1 q (fun _ => q) q q
 exact O1 q (fun _ => q) q q
 exact O1 q (fun _ => q) q q
 exact O1 q (fun _ => q) q q
 exact O1 q (fun _ => q) q q
 exact O1 q (fun _ => q) q q
 exact O1 q (fun _ => q) q q
 exact O1 q (fun _ => q) q q
 exact O1 q (fun _ => q) q q
 exact O1 q (fun _ => q) q q
 exact O1 q (fun _ => q) q q
 exact O1 q (fun _ => q) q q
 exact O1 q (fun _ => q) q q
 exact O1 q (fun _ => q) q q
 exact O1 q (fun _ => q) q q
 exact O1 q (fun _ => q) q q
 exact O1 q (fun _ => q) q q
 exact O1 q (fun _ => q) q q
 exact O1 q (fun _ => q) q q
 exact O1 q (fun _ => q) q q
 exact O1 q (fun _ => q) q q
 exact O1 q (fun _ => q) q q
 exact O1 q (fun _ => q) q q
 exact O1 q (fun _ => q) q q
 exact O1 q (fun _ => q) q q
 exact O1 q (fun _ => q) q q
 exact O1 q (fun _ => q) q q
 exact O1 q (fun _ => q) q q
 exact O1 q (fun _ => q) q q
 exact O1 q (fun _ => q) q q
 exact En3 h
 replace h:=condF h hb31
 rcases boolCases (!((decide ((r201.1.r 0) = (r199.1.r 0))) && ((decide ((r201.1.r 1) = (r199.1.r 1))) && ((decide ((r201.1.r 2) = (r199.1.r 2))) && ((decide ((r201.1.r 3) = (r199.1.r 3))) && ((decide ((r201.1.r 4) = (r199.1.r 4))) && ((decide ((r201.1.r 5) = (r199.1.r 5))) && ((decide ((r201.1.r 6) = (r199.1.r 6))) && ((decide ((r201.1.r 7) = (r199.1.r 7))) && ((decide ((r201.1.r 8) = (r199.1.r 8))) && ((decide ((r201.1.r 9) = (r199.1.r 9))) && ((decide ((r201.1.r 10) = (r199.1.r 10))) && ((decide ((r201.1.r 11) = (r199.1.r 11))) && ((decide ((r201.1.r 12) = (r199.1.r 12))) && ((decide ((r201.1.r 13) = (r199.1.r 13))) && ((decide ((r201.1.r 14) = (r199.1.r 14))) && ((decide ((r201.1.r 15) = (r199.1.r 15))) && ((decide (r201.1.pc = r199.1.pc)) && ((decide (r201.1.exc = r199.1.exc)) && ((decide (r201.1.defer = r199.1.defer)) && true)))))))))))))))))))) with hb32 | hb32
 replace h:=condT h hb32
 apply RT [_,_,_,_,_,_,_,_,_,_,_,_,_,_,_,_,_,_,_,_,_,_,_,_,_,_,_,_,_,_,_,_,_,_,_,_,_,_,_,_,_,_,_,_,_,_,_,_,_,_,_,_,_,_,_,_,_,_,_,_,_,_,_,_,_,_,_,_,_,_,_,_,_,_,_] [] [] [([],[12],[0]),([],[],[0]),([0,1],[],[0]),([2],[],[0]),([3],[15],[0]),([3],[12],[0]),([4,5,3],[],[0]),([3,6],[],[0]),([7],[],[0]),([8],[],[0]),([8],[],[0]),([8],[],[0]),([8,11],[],[0]),([12],[],[0]),([13],[],[0]),([13],[],[0]),([13],[],[0]),([13],[],[0]),([13],[],[0]),([13],[],[0]),([13,19],[],[0]),([20],[],[0]),([21],[],[0]),([21],[],[0]),([21,23],[],[0]),([24],[],[0]),([25],[],[0]),([25],[],[0]),([25,27],[],[0]),([28],[],[0]),([29],[],[0]),([29],[],[0]),([29,31],[],[0]),([32],[],[0]),([33],[],[0]),([33],[],[0]),([33,35],[],[0]),([36],[],[0]),([37],[],[0]),([37],[],[0]),([37,39],[],[0]),([40],[],[0]),([41],[],[0]),([41],[],[0]),([41],[],[0]),([41],[],[0]),([41],[],[0]),([41],[],[0]),([41],[],[0]),([41],[],[0]),([41],[],[0]),([41,50],[],[0]),([51],[],[0]),([52],[],[0]),([52],[],[0]),([52],[],[0]),([52],[],[0]),([52],[],[0]),([52],[],[0]),([52],[],[0]),([52],[],[0]),([52],[],[0]),([52],[],[0]),([52],[],[0]),([52],[],[0]),([52],[],[0]),([52],[],[0]),([52],[],[0]),([52],[],[0]),([52],[],[0]),([52],[],[0]),([52],[],[0]),([52],[],[0]),([52],[],[0]),([52,73],[],[0])] (by kernel_rfl) (by kernel_rfl) q q
 refine ⟨?_,?_,?_,?_,?_,?_,?_,?_,?_,?_,?_,?_,?_,?_,?_,?_,?_,?_,?_,?_,?_,?_,?_,?_,?_,?_,?_,?_,?_,?_,?_,?_,?_,?_,?_,?_,?_,?_,?_,?_,?_,?_,?_,?_,?_,?_,?_,?_,?_,?_,?_,?_,?_,?_,?_,?_,?_,?_,?_,?_,?_,?_,?_,?_,?_,?_,?_,?_,?_,?_,?_,?_,?_,?_,?_,Zt⟩
 exact O1 q (fun _ => q) q q
 refine ⟨fun F => ?_,Zt⟩
 exact Zq (y_build p41 z41 q q) q (Zd q q q)
 refine ⟨fun F => ?_,Zt⟩
 exact Zq (y_nest (xs:=(V41 r199.1)) (ys:=z19) q41 q (Le.agd (Zs _)) q (Le.agd (Zs _)) q q q) q (Zd q q q)
 refine ⟨fun F => ?_,Zt⟩
 exact Rl 1 q (WL.cast 73 q (Le.ofd (Cb hb31)) (WL.done2 q q q))
 exact O1 q (fun _ => q) q q
 exact O1 q (fun _ => q) q q
 refine ⟨fun F => ?_,Zt⟩
 exact Zy (y_nest (xs:=(V41 r201.1)) (ys:=(V41 r199.1)) q41 q (Le.agd (Zs _)) q (Le.agd (Zs _)) q q q) q q q (Zd q q q)
 exact O1 q (fun _ => q) q q
 refine ⟨fun F => ?_,Zt⟩
 exact Rl 1 q (WL.cast 78 q (Le.ofd (Cb hb32)) (WL.done2 q q q))
 exact O1 q (fun _ => q) q q
 exact O1 q (fun _ => q) q q
 exact O1 q (fun _ => q) q q
 exact O1 q (fun _ => q) q q
 exact O1 q (fun _ => q) q q
 exact O1 q (fun _ => q) q q
 exact O1 q (fun _ => q) q q
 exact O1 q (fun _ => q) q q
 exact O1 q (fun _ => q) q q
 exact O1 q (fun _ => q) q q
 exact O1 q (fun _ => q) q q
 exact O1 q (fun _ => q) q q
 exact O1 q (fun _ => q) q q
 exact O1 q (fun _ => q) q q
 exact O1 q (fun _ => q) q q
 exact O1 q (fun _ => q) q q
 exact O1 q (fun _ => q) q q
 exact O1 q (fun _ => q) q q
 exact O1 q (fun _ => q) q q
 exact O1 q (fun _ => q) q q
 exact O1 q (fun _ => q) q q
 exact O1 q (fun _ => q) q q
 exact O1 q (fun _ => q) q q
 exact O1 q (fun _ => q) q q
 exact O1 q (fun _ => q) q q
 exact O1 q (fun _ => q) q q
 exact O1 q (fun _ => q) q q
 exact O1 q (fun _ => q) q q
 exact O1 q (fun _ => q) q q
 exact O1 q (fun _ => q) q q
 exact O1 q (fun _ => q) q q
 exact O1 q (fun _ => q) q q
 exact O1 q (fun _ => q) q q
 exact O1 q (fun _ => q) q q
 exact O1 q (fun _ => q) q q
 exact O1 q (fun _ => q) q q
 exact O1 q (fun _ => q) q q
 exact O1 q (fun _ => q) q q
 exact O1 q (fun _ => q) q q
 exact O1 q (fun _ => q) q q
 exact O1 q (fun _ => q) q q
 exact O1 q (fun _ => q) q q
 exact O1 q (fun _ => q) q q
 exact O1 q (fun _ => q) q q
 exact O1 q (fun _ => q) q q
 exact O1 q (fun _ => q) q q
 exact O1 q (fun _ => q) q q
 exact O1 q (fun _ => q) q q
 exact O1 q (fun _ => q) q q
 exact O1 q (fun _ => q) q q
 exact O1 q (fun _ => q) q q
 exact O1 q (fun _ => q) q q
 exact O1 q (fun _ => q) q q
 exact O1 q (fun _ => q) q q
 exact O1 q (fun _ => q) q q
 exact O1 q (fun _ => q) q q
 exact O1 q (fun _ => q) q q
 exact O1 q (fun _ => q) q q
 exact O1 q (fun _ => q) q q
 exact O1 q (fun _ => q) q q
 exact O1 q (fun _ => q) q q
 exact O1 q (fun _ => q) q q
 exact O1 q (fun _ => q) q q
 exact O1 q (fun _ => q) q q
 exact O1 q (fun _ => q) q q
 exact O1 q (fun _ => q) q q
 exact En3 h
 replace h:=condF h hb32
 rcases boolCases (!((decide ((r203.1.r 0) = (r199.1.r 0))) && ((decide ((r203.1.r 1) = (r199.1.r 1))) && ((decide ((r203.1.r 2) = (r199.1.r 2))) && ((decide ((r203.1.r 3) = (r199.1.r 3))) && ((decide ((r203.1.r 4) = (r199.1.r 4))) && ((decide ((r203.1.r 5) = (r199.1.r 5))) && ((decide ((r203.1.r 6) = (r199.1.r 6))) && ((decide ((r203.1.r 7) = (r199.1.r 7))) && ((decide ((r203.1.r 8) = (r199.1.r 8))) && ((decide ((r203.1.r 9) = (r199.1.r 9))) && ((decide ((r203.1.r 10) = (r199.1.r 10))) && ((decide ((r203.1.r 11) = (r199.1.r 11))) && ((decide ((r203.1.r 12) = (r199.1.r 12))) && ((decide ((r203.1.r 13) = (r199.1.r 13))) && ((decide ((r203.1.r 14) = (r199.1.r 14))) && ((decide ((r203.1.r 15) = (r199.1.r 15))) && ((decide (r203.1.pc = r199.1.pc)) && ((decide (r203.1.exc = r199.1.exc)) && ((decide (r203.1.defer = r199.1.defer)) && true)))))))))))))))))))) with hb33 | hb33
 replace h:=condT h hb33
 apply RT [_,_,_,_,_,_,_,_,_,_,_,_,_,_,_,_,_,_,_,_,_,_,_,_,_,_,_,_,_,_,_,_,_,_,_,_,_,_,_,_,_,_,_,_,_,_,_,_,_,_,_,_,_,_,_,_,_,_,_,_,_,_,_,_,_,_,_,_,_,_,_,_,_,_,_] [] [] [([],[12],[0]),([],[],[0]),([0,1],[],[0]),([2],[],[0]),([3],[15],[0]),([3],[12],[0]),([4,5,3],[],[0]),([3,6],[],[0]),([7],[],[0]),([8],[18],[0]),([8],[12],[0]),([9,10,8],[],[0]),([8,11],[],[0]),([12],[],[0]),([13],[],[0]),([13],[],[0]),([13],[],[0]),([13],[],[0]),([13],[],[0]),([13],[],[0]),([13,19],[],[0]),([20],[],[0]),([21],[],[0]),([21],[],[0]),([21,23],[],[0]),([24],[],[0]),([25],[],[0]),([25],[],[0]),([25,27],[],[0]),([28],[],[0]),([29],[],[0]),([29],[],[0]),([29,31],[],[0]),([32],[],[0]),([33],[],[0]),([33],[],[0]),([33,35],[],[0]),([36],[],[0]),([37],[],[0]),([37],[],[0]),([37,39],[],[0]),([40],[],[0]),([41],[],[0]),([41],[],[0]),([41],[],[0]),([41],[],[0]),([41],[],[0]),([41],[],[0]),([41],[],[0]),([41],[],[0]),([41],[],[0]),([41,50],[],[0]),([51],[],[0]),([52],[],[0]),([52],[],[0]),([52],[],[0]),([52],[],[0]),([52],[],[0]),([52],[],[0]),([52],[],[0]),([52],[],[0]),([52],[],[0]),([52],[],[0]),([52],[],[0]),([52],[],[0]),([52],[],[0]),([52],[],[0]),([52],[],[0]),([52],[],[0]),([52],[],[0]),([52],[],[0]),([52],[],[0]),([52],[],[0]),([52],[],[0]),([52,73],[],[0])] (by kernel_rfl) (by kernel_rfl) q q
 refine ⟨?_,?_,?_,?_,?_,?_,?_,?_,?_,?_,?_,?_,?_,?_,?_,?_,?_,?_,?_,?_,?_,?_,?_,?_,?_,?_,?_,?_,?_,?_,?_,?_,?_,?_,?_,?_,?_,?_,?_,?_,?_,?_,?_,?_,?_,?_,?_,?_,?_,?_,?_,?_,?_,?_,?_,?_,?_,?_,?_,?_,?_,?_,?_,?_,?_,?_,?_,?_,?_,?_,?_,?_,?_,?_,?_,Zt⟩
 exact O1 q (fun _ => q) q q
 refine ⟨fun F => ?_,Zt⟩
 exact Zq (y_build p41 z41 q q) q (Zd q q q)
 refine ⟨fun F => ?_,Zt⟩
 exact Zq (y_nest (xs:=(V41 r199.1)) (ys:=z19) q41 q (Le.agd (Zs _)) q (Le.agd (Zs _)) q q q) q (Zd q q q)
 refine ⟨fun F => ?_,Zt⟩
 exact Rl 1 q (WL.cast 73 q (Le.ofd (Cb hb31)) (WL.done2 q q q))
 exact O1 q (fun _ => q) q q
 exact O1 q (fun _ => q) q q
 refine ⟨fun F => ?_,Zt⟩
 exact Zy (y_nest (xs:=(V41 r201.1)) (ys:=(V41 r199.1)) q41 q (Le.agd (Zs _)) q (Le.agd (Zs _)) q q q) q q q (Zd q q q)
 exact O1 q (fun _ => q) q q
 refine ⟨fun F => ?_,Zt⟩
 exact Rl 1 q (WL.cast 78 q (Le.ofd (Cb hb32)) (WL.done2 q q q))
 exact O1 q (fun _ => q) q q
 exact O1 q (fun _ => q) q q
 refine ⟨fun F => ?_,Zt⟩
 exact Zy (y_nest (xs:=(V41 r203.1)) (ys:=(V41 r199.1)) q41 q (Le.agd (Zs _)) q (Le.agd (Zs _)) q q q) q q q (Zd q q q)
 exact O1 q (fun _ => q) q q
 refine ⟨fun F => ?_,Zt⟩
 exact Rl 1 q (WL.cast 83 q (Le.ofd (Cb hb33)) (WL.done2 q q q))
 exact O1 q (fun _ => q) q q
 exact O1 q (fun _ => q) q q
 exact O1 q (fun _ => q) q q
 exact O1 q (fun _ => q) q q
 exact O1 q (fun _ => q) q q
 exact O1 q (fun _ => q) q q
 exact O1 q (fun _ => q) q q
 exact O1 q (fun _ => q) q q
 exact O1 q (fun _ => q) q q
 exact O1 q (fun _ => q) q q
 exact O1 q (fun _ => q) q q
 exact O1 q (fun _ => q) q q
 exact O1 q (fun _ => q) q q
 exact O1 q (fun _ => q) q q
 exact O1 q (fun _ => q) q q
 exact O1 q (fun _ => q) q q
 exact O1 q (fun _ => q) q q
 exact O1 q (fun _ => q) q q
 exact O1 q (fun _ => q) q q
 exact O1 q (fun _ => q) q q
 exact O1 q (fun _ => q) q q
 exact O1 q (fun _ => q) q q
 exact O1 q (fun _ => q) q q
 exact O1 q (fun _ => q) q q
 exact O1 q (fun _ => q) q q
 exact O1 q (fun _ => q) q q
 exact O1 q (fun _ => q) q q
 exact O1 q (fun _ => q) q q
 exact O1 q (fun _ => q) q q
 exact O1 q (fun _ => q) q q
 exact O1 q (fun _ => q) q q
 exact O1 q (fun _ => q) q q
 exact O1 q (fun _ => q) q q
 exact O1 q (fun _ => q) q q
 exact O1 q (fun _ => q) q q
 exact O1 q (fun _ => q) q q
 exact O1 q (fun _ => q) q q
 exact O1 q (fun _ => q) q q
 exact O1 q (fun _ => q) q q
 exact O1 q (fun _ => q) q q
 exact O1 q (fun _ => q) q q
 exact O1 q (fun _ => q) q q
 exact O1 q (fun _ => q) q q
 exact O1 q (fun _ => q) q q
 exact O1 q (fun _ => q) q q
 exact O1 q (fun _ => q) q q
 exact O1 q (fun _ => q) q q
 exact O1 q (fun _ => q) q q
 exact O1 q (fun _ => q) q q
 exact O1 q (fun _ => q) q q
 exact O1 q (fun _ => q) q q
 exact O1 q (fun _ => q) q q
 exact O1 q (fun _ => q) q q
 exact O1 q (fun _ => q) q q
 exact O1 q (fun _ => q) q q
 exact O1 q (fun _ => q) q q
 exact O1 q (fun _ => q) q q
 exact O1 q (fun _ => q) q q
 exact O1 q (fun _ => q) q q
 exact O1 q (fun _ => q) q q
 exact O1 q (fun _ => q) q q
 exact En3 h
 replace h:=condF h hb33
 rcases boolCases (!decide ((IntKind.i64.wrap ((List.length r199.2.1 : Int) + (List.length r201.2.1 : Int))) = 0)) with hb34 | hb34
 replace h:=condT h hb34
 apply RT [_,_,_,_,_,_,_,_,_,_,_,_,_,_,_,_,_,_,_,_,_,_,_,_,_,_,_,_,_,_,_,_,_,_,_,_,_,_,_,_,_,_,_,_,_,_,_,_,_,_,_,_,_,_,_,_,_,_,_,_,_,_,_,_,_,_,_,_,_,_,_,_,_,_,_] [] [] [([],[12],[0]),([],[],[0]),([0,1],[],[0]),([2],[],[0]),([3],[15],[0]),([3],[12],[0]),([4,5,3],[],[0]),([3,6],[],[0]),([7],[],[0]),([8],[18],[0]),([8],[12],[0]),([9,10,8],[],[0]),([8,11],[],[0]),([12],[],[0]),([13],[13],[0]),([14,13],[],[0]),([13],[16],[0]),([16,13],[],[0]),([15,17,13],[],[0]),([18,13],[],[0]),([13,19],[],[0]),([20],[],[0]),([21],[],[0]),([21],[],[0]),([21,23],[],[0]),([24],[],[0]),([25],[],[0]),([25],[],[0]),([25,27],[],[0]),([28],[],[0]),([29],[],[0]),([29],[],[0]),([29,31],[],[0]),([32],[],[0]),([33],[],[0]),([33],[],[0]),([33,35],[],[0]),([36],[],[0]),([37],[],[0]),([37],[],[0]),([37,39],[],[0]),([40],[],[0]),([41],[],[0]),([41],[],[0]),([41],[],[0]),([41],[],[0]),([41],[],[0]),([41],[],[0]),([41],[],[0]),([41],[],[0]),([41],[],[0]),([41,50],[],[0]),([51],[],[0]),([52],[],[0]),([52],[],[0]),([52],[],[0]),([52],[],[0]),([52],[],[0]),([52],[],[0]),([52],[],[0]),([52],[],[0]),([52],[],[0]),([52],[],[0]),([52],[],[0]),([52],[],[0]),([52],[],[0]),([52],[],[0]),([52],[],[0]),([52],[],[0]),([52],[],[0]),([52],[],[0]),([52],[],[0]),([52],[],[0]),([52],[],[0]),([52,73],[],[0])] (by kernel_rfl) (by kernel_rfl) q q
 refine ⟨?_,?_,?_,?_,?_,?_,?_,?_,?_,?_,?_,?_,?_,?_,?_,?_,?_,?_,?_,?_,?_,?_,?_,?_,?_,?_,?_,?_,?_,?_,?_,?_,?_,?_,?_,?_,?_,?_,?_,?_,?_,?_,?_,?_,?_,?_,?_,?_,?_,?_,?_,?_,?_,?_,?_,?_,?_,?_,?_,?_,?_,?_,?_,?_,?_,?_,?_,?_,?_,?_,?_,?_,?_,?_,?_,Zt⟩
 exact O1 q (fun _ => q) q q
 refine ⟨fun F => ?_,Zt⟩
 exact Zq (y_build p41 z41 q q) q (Zd q q q)
 refine ⟨fun F => ?_,Zt⟩
 exact Zq (y_nest (xs:=(V41 r199.1)) (ys:=z19) q41 q (Le.agd (Zs _)) q (Le.agd (Zs _)) q q q) q (Zd q q q)
 refine ⟨fun F => ?_,Zt⟩
 exact Rl 1 q (WL.cast 73 q (Le.ofd (Cb hb31)) (WL.done2 q q q))
 exact O1 q (fun _ => q) q q
 exact O1 q (fun _ => q) q q
 refine ⟨fun F => ?_,Zt⟩
 exact Zy (y_nest (xs:=(V41 r201.1)) (ys:=(V41 r199.1)) q41 q (Le.agd (Zs _)) q (Le.agd (Zs _)) q q q) q q q (Zd q q q)
 exact O1 q (fun _ => q) q q
 refine ⟨fun F => ?_,Zt⟩
 exact Rl 1 q (WL.cast 78 q (Le.ofd (Cb hb32)) (WL.done2 q q q))
 exact O1 q (fun _ => q) q q
 exact O1 q (fun _ => q) q q
 refine ⟨fun F => ?_,Zt⟩
 exact Zy (y_nest (xs:=(V41 r203.1)) (ys:=(V41 r199.1)) q41 q (Le.agd (Zs _)) q (Le.agd (Zs _)) q q q) q q q (Zd q q q)
 exact O1 q (fun _ => q) q q
 refine ⟨fun F => ?_,Zt⟩
 exact Rl 1 q (WL.cast 83 q (Le.ofd (Cb hb33)) (WL.done2 q q q))
 exact O1 q (fun _ => q) q q
 refine ⟨fun F => ?_,Zt⟩
 exact Zy (y_len_map E58 r199.2.1 e50 q q Zl) q q q (Zd q q q)
 exact O1 q (fun _ => q) q q
 refine ⟨fun F => ?_,Zt⟩
 exact Zy (y_len_map E58 r201.2.1 e50 q q Zl) q q q (Zd q q q)
 exact O1 q (fun _ => q) q q
 exact O1 q (fun _ => q) q q
 exact O1 q (fun _ => q) q q
 refine ⟨fun F => ?_,Zt⟩
 exact Rl 1 q (WL.cast 91 q (Le.ofd (Cb hb34)) (WL.done2 q q q))
 exact O1 q (fun _ => q) q q
 exact O1 q (fun _ => q) q q
 exact O1 q (fun _ => q) q q
 exact O1 q (fun _ => q) q q
 exact O1 q (fun _ => q) q q
 exact O1 q (fun _ => q) q q
 exact O1 q (fun _ => q) q q
 exact O1 q (fun _ => q) q q
 exact O1 q (fun _ => q) q q
 exact O1 q (fun _ => q) q q
 exact O1 q (fun _ => q) q q
 exact O1 q (fun _ => q) q q
 exact O1 q (fun _ => q) q q
 exact O1 q (fun _ => q) q q
 exact O1 q (fun _ => q) q q
 exact O1 q (fun _ => q) q q
 exact O1 q (fun _ => q) q q
 exact O1 q (fun _ => q) q q
 exact O1 q (fun _ => q) q q
 exact O1 q (fun _ => q) q q
 exact O1 q (fun _ => q) q q
 exact O1 q (fun _ => q) q q
 exact O1 q (fun _ => q) q q
 exact O1 q (fun _ => q) q q
 exact O1 q (fun _ => q) q q
 exact O1 q (fun _ => q) q q
 exact O1 q (fun _ => q) q q
 exact O1 q (fun _ => q) q q
 exact O1 q (fun _ => q) q q
 exact O1 q (fun _ => q) q q
 exact O1 q (fun _ => q) q q
 exact O1 q (fun _ => q) q q
 exact O1 q (fun _ => q) q q
 exact O1 q (fun _ => q) q q
 exact O1 q (fun _ => q) q q
 exact O1 q (fun _ => q) q q
 exact O1 q (fun _ => q) q q
 exact O1 q (fun _ => q) q q
 exact O1 q (fun _ => q) q q
 exact O1 q (fun _ => q) q q
 exact O1 q (fun _ => q) q q
 exact O1 q (fun _ => q) q q
 exact O1 q (fun _ => q) q q
 exact O1 q (fun _ => q) q q
 exact O1 q (fun _ => q) q q
 exact O1 q (fun _ => q) q q
 exact O1 q (fun _ => q) q q
 exact O1 q (fun _ => q) q q
 exact O1 q (fun _ => q) q q
 exact O1 q (fun _ => q) q q
 exact O1 q (fun _ => q) q q
 exact O1 q (fun _ => q) q q
 exact O1 q (fun _ => q) q q
 exact En3 h
 replace h:=condF h hb34
 rcases boolCases (!decide (r205.1 = 0)) with hb35 | hb35
 replace h:=condT h hb35
 apply RT [_,_,_,_,_,_,_,_,_,_,_,_,_,_,_,_,_,_,_,_,_,_,_,_,_,_,_,_,_,_,_,_,_,_,_,_,_,_,_,_,_,_,_,_,_,_,_,_,_,_,_,_,_,_,_,_,_,_,_,_,_,_,_,_,_,_,_,_,_,_,_,_,_,_,_] [] [] [([],[12],[0]),([],[],[0]),([0,1],[],[0]),([2],[],[0]),([3],[15],[0]),([3],[12],[0]),([4,5,3],[],[0]),([3,6],[],[0]),([7],[],[0]),([8],[18],[0]),([8],[12],[0]),([9,10,8],[],[0]),([8,11],[],[0]),([12],[],[0]),([13],[13],[0]),([14,13],[],[0]),([13],[16],[0]),([16,13],[],[0]),([15,17,13],[],[0]),([18,13],[],[0]),([13,19],[],[0]),([20],[],[0]),([21],[20],[0]),([22,21],[],[0]),([21,23],[],[0]),([24],[],[0]),([25],[],[0]),([25],[],[0]),([25,27],[],[0]),([28],[],[0]),([29],[],[0]),([29],[],[0]),([29,31],[],[0]),([32],[],[0]),([33],[],[0]),([33],[],[0]),([33,35],[],[0]),([36],[],[0]),([37],[],[0]),([37],[],[0]),([37,39],[],[0]),([40],[],[0]),([41],[],[0]),([41],[],[0]),([41],[],[0]),([41],[],[0]),([41],[],[0]),([41],[],[0]),([41],[],[0]),([41],[],[0]),([41],[],[0]),([41,50],[],[0]),([51],[],[0]),([52],[],[0]),([52],[],[0]),([52],[],[0]),([52],[],[0]),([52],[],[0]),([52],[],[0]),([52],[],[0]),([52],[],[0]),([52],[],[0]),([52],[],[0]),([52],[],[0]),([52],[],[0]),([52],[],[0]),([52],[],[0]),([52],[],[0]),([52],[],[0]),([52],[],[0]),([52],[],[0]),([52],[],[0]),([52],[],[0]),([52],[],[0]),([52,73],[],[0])] (by kernel_rfl) (by kernel_rfl) q q
 refine ⟨?_,?_,?_,?_,?_,?_,?_,?_,?_,?_,?_,?_,?_,?_,?_,?_,?_,?_,?_,?_,?_,?_,?_,?_,?_,?_,?_,?_,?_,?_,?_,?_,?_,?_,?_,?_,?_,?_,?_,?_,?_,?_,?_,?_,?_,?_,?_,?_,?_,?_,?_,?_,?_,?_,?_,?_,?_,?_,?_,?_,?_,?_,?_,?_,?_,?_,?_,?_,?_,?_,?_,?_,?_,?_,?_,Zt⟩
 exact O1 q (fun _ => q) q q
 refine ⟨fun F => ?_,Zt⟩
 exact Zq (y_build p41 z41 q q) q (Zd q q q)
 refine ⟨fun F => ?_,Zt⟩
 exact Zq (y_nest (xs:=(V41 r199.1)) (ys:=z19) q41 q (Le.agd (Zs _)) q (Le.agd (Zs _)) q q q) q (Zd q q q)
 refine ⟨fun F => ?_,Zt⟩
 exact Rl 1 q (WL.cast 73 q (Le.ofd (Cb hb31)) (WL.done2 q q q))
 exact O1 q (fun _ => q) q q
 exact O1 q (fun _ => q) q q
 refine ⟨fun F => ?_,Zt⟩
 exact Zy (y_nest (xs:=(V41 r201.1)) (ys:=(V41 r199.1)) q41 q (Le.agd (Zs _)) q (Le.agd (Zs _)) q q q) q q q (Zd q q q)
 exact O1 q (fun _ => q) q q
 refine ⟨fun F => ?_,Zt⟩
 exact Rl 1 q (WL.cast 78 q (Le.ofd (Cb hb32)) (WL.done2 q q q))
 exact O1 q (fun _ => q) q q
 exact O1 q (fun _ => q) q q
 refine ⟨fun F => ?_,Zt⟩
 exact Zy (y_nest (xs:=(V41 r203.1)) (ys:=(V41 r199.1)) q41 q (Le.agd (Zs _)) q (Le.agd (Zs _)) q q q) q q q (Zd q q q)
 exact O1 q (fun _ => q) q q
 refine ⟨fun F => ?_,Zt⟩
 exact Rl 1 q (WL.cast 83 q (Le.ofd (Cb hb33)) (WL.done2 q q q))
 exact O1 q (fun _ => q) q q
 refine ⟨fun F => ?_,Zt⟩
 exact Zy (y_len_map E58 r199.2.1 e50 q q Zl) q q q (Zd q q q)
 exact O1 q (fun _ => q) q q
 refine ⟨fun F => ?_,Zt⟩
 exact Zy (y_len_map E58 r201.2.1 e50 q q Zl) q q q (Zd q q q)
 exact O1 q (fun _ => q) q q
 exact O1 q (fun _ => q) q q
 exact O1 q (fun _ => q) q q
 refine ⟨fun F => ?_,Zt⟩
 exact Rl 1 q (WL.cast 91 q (Le.ofd (Cb hb34)) (WL.done2 q q q))
 exact O1 q (fun _ => q) q q
 exact O1 q (fun _ => q) q q
 exact O1 q (fun _ => q) q q
 refine ⟨fun F => ?_,Zt⟩
 exact Rl 1 q (WL.cast 95 q (Le.ofd (Cb hb35)) (WL.done2 q q q))
 exact O1 q (fun _ => q) q q
 exact O1 q (fun _ => q) q q
 exact O1 q (fun _ => q) q q
 exact O1 q (fun _ => q) q q
 exact O1 q (fun _ => q) q q
 exact O1 q (fun _ => q) q q
 exact O1 q (fun _ => q) q q
 exact O1 q (fun _ => q) q q
 exact O1 q (fun _ => q) q q
 exact O1 q (fun _ => q) q q
 exact O1 q (fun _ => q) q q
 exact O1 q (fun _ => q) q q
 exact O1 q (fun _ => q) q q
 exact O1 q (fun _ => q) q q
 exact O1 q (fun _ => q) q q
 exact O1 q (fun _ => q) q q
 exact O1 q (fun _ => q) q q
 exact O1 q (fun _ => q) q q
 exact O1 q (fun _ => q) q q
 exact O1 q (fun _ => q) q q
 exact O1 q (fun _ => q) q q
 exact O1 q (fun _ => q) q q
 exact O1 q (fun _ => q) q q
 exact O1 q (fun _ => q) q q
 exact O1 q (fun _ => q) q q
 exact O1 q (fun _ => q) q q
 exact O1 q (fun _ => q) q q
 exact O1 q (fun _ => q) q q
 exact O1 q (fun _ => q) q q
 exact O1 q (fun _ => q) q q
 exact O1 q (fun _ => q) q q
 exact O1 q (fun _ => q) q q
 exact O1 q (fun _ => q) q q
 exact O1 q (fun _ => q) q q
 exact O1 q (fun _ => q) q q
 exact O1 q (fun _ => q) q q
 exact O1 q (fun _ => q) q q
 exact O1 q (fun _ => q) q q
 exact O1 q (fun _ => q) q q
 exact O1 q (fun _ => q) q q
 exact O1 q (fun _ => q) q q
 exact O1 q (fun _ => q) q q
 exact O1 q (fun _ => q) q q
 exact O1 q (fun _ => q) q q
 exact O1 q (fun _ => q) q q
 exact O1 q (fun _ => q) q q
 exact O1 q (fun _ => q) q q
 exact O1 q (fun _ => q) q q
 exact O1 q (fun _ => q) q q
 exact En3 h
 replace h:=condF h hb35
 rcases boolCases (!decide (r199.2.2.1 = 1)) with hb36 | hb36
 replace h:=condT h hb36
 apply RT [_,_,_,_,_,_,_,_,_,_,_,_,_,_,_,_,_,_,_,_,_,_,_,_,_,_,_,_,_,_,_,_,_,_,_,_,_,_,_,_,_,_,_,_,_,_,_,_,_,_,_,_,_,_,_,_,_,_,_,_,_,_,_,_,_,_,_,_,_,_,_,_,_,_,_] [] [] [([],[12],[0]),([],[],[0]),([0,1],[],[0]),([2],[],[0]),([3],[15],[0]),([3],[12],[0]),([4,5,3],[],[0]),([3,6],[],[0]),([7],[],[0]),([8],[18],[0]),([8],[12],[0]),([9,10,8],[],[0]),([8,11],[],[0]),([12],[],[0]),([13],[13],[0]),([14,13],[],[0]),([13],[16],[0]),([16,13],[],[0]),([15,17,13],[],[0]),([18,13],[],[0]),([13,19],[],[0]),([20],[],[0]),([21],[20],[0]),([22,21],[],[0]),([21,23],[],[0]),([24],[],[0]),([25],[14],[0]),([26,25],[],[0]),([25,27],[],[0]),([28],[],[0]),([29],[],[0]),([29],[],[0]),([29,31],[],[0]),([32],[],[0]),([33],[],[0]),([33],[],[0]),([33,35],[],[0]),([36],[],[0]),([37],[],[0]),([37],[],[0]),([37,39],[],[0]),([40],[],[0]),([41],[],[0]),([41],[],[0]),([41],[],[0]),([41],[],[0]),([41],[],[0]),([41],[],[0]),([41],[],[0]),([41],[],[0]),([41],[],[0]),([41,50],[],[0]),([51],[],[0]),([52],[],[0]),([52],[],[0]),([52],[],[0]),([52],[],[0]),([52],[],[0]),([52],[],[0]),([52],[],[0]),([52],[],[0]),([52],[],[0]),([52],[],[0]),([52],[],[0]),([52],[],[0]),([52],[],[0]),([52],[],[0]),([52],[],[0]),([52],[],[0]),([52],[],[0]),([52],[],[0]),([52],[],[0]),([52],[],[0]),([52],[],[0]),([52,73],[],[0])] (by kernel_rfl) (by kernel_rfl) q q
 refine ⟨?_,?_,?_,?_,?_,?_,?_,?_,?_,?_,?_,?_,?_,?_,?_,?_,?_,?_,?_,?_,?_,?_,?_,?_,?_,?_,?_,?_,?_,?_,?_,?_,?_,?_,?_,?_,?_,?_,?_,?_,?_,?_,?_,?_,?_,?_,?_,?_,?_,?_,?_,?_,?_,?_,?_,?_,?_,?_,?_,?_,?_,?_,?_,?_,?_,?_,?_,?_,?_,?_,?_,?_,?_,?_,?_,Zt⟩
 exact O1 q (fun _ => q) q q
 refine ⟨fun F => ?_,Zt⟩
 exact Zq (y_build p41 z41 q q) q (Zd q q q)
 refine ⟨fun F => ?_,Zt⟩
 exact Zq (y_nest (xs:=(V41 r199.1)) (ys:=z19) q41 q (Le.agd (Zs _)) q (Le.agd (Zs _)) q q q) q (Zd q q q)
 refine ⟨fun F => ?_,Zt⟩
 exact Rl 1 q (WL.cast 73 q (Le.ofd (Cb hb31)) (WL.done2 q q q))
 exact O1 q (fun _ => q) q q
 exact O1 q (fun _ => q) q q
 refine ⟨fun F => ?_,Zt⟩
 exact Zy (y_nest (xs:=(V41 r201.1)) (ys:=(V41 r199.1)) q41 q (Le.agd (Zs _)) q (Le.agd (Zs _)) q q q) q q q (Zd q q q)
 exact O1 q (fun _ => q) q q
 refine ⟨fun F => ?_,Zt⟩
 exact Rl 1 q (WL.cast 78 q (Le.ofd (Cb hb32)) (WL.done2 q q q))
 exact O1 q (fun _ => q) q q
 exact O1 q (fun _ => q) q q
 refine ⟨fun F => ?_,Zt⟩
 exact Zy (y_nest (xs:=(V41 r203.1)) (ys:=(V41 r199.1)) q41 q (Le.agd (Zs _)) q (Le.agd (Zs _)) q q q) q q q (Zd q q q)
 exact O1 q (fun _ => q) q q
 refine ⟨fun F => ?_,Zt⟩
 exact Rl 1 q (WL.cast 83 q (Le.ofd (Cb hb33)) (WL.done2 q q q))
 exact O1 q (fun _ => q) q q
 refine ⟨fun F => ?_,Zt⟩
 exact Zy (y_len_map E58 r199.2.1 e50 q q Zl) q q q (Zd q q q)
 exact O1 q (fun _ => q) q q
 refine ⟨fun F => ?_,Zt⟩
 exact Zy (y_len_map E58 r201.2.1 e50 q q Zl) q q q (Zd q q q)
 exact O1 q (fun _ => q) q q
 exact O1 q (fun _ => q) q q
 exact O1 q (fun _ => q) q q
 refine ⟨fun F => ?_,Zt⟩
 exact Rl 1 q (WL.cast 91 q (Le.ofd (Cb hb34)) (WL.done2 q q q))
 exact O1 q (fun _ => q) q q
 exact O1 q (fun _ => q) q q
 exact O1 q (fun _ => q) q q
 refine ⟨fun F => ?_,Zt⟩
 exact Rl 1 q (WL.cast 95 q (Le.ofd (Cb hb35)) (WL.done2 q q q))
 exact O1 q (fun _ => q) q q
 exact O1 q (fun _ => q) q q
 exact O1 q (fun _ => q) q q
 refine ⟨fun F => ?_,Zt⟩
 exact Rl 1 q (WL.cast 99 q (Le.ofd (Cb hb36)) (WL.done2 q q q))
 exact O1 q (fun _ => q) q q
 exact O1 q (fun _ => q) q q
 exact O1 q (fun _ => q) q q
 exact O1 q (fun _ => q) q q
 exact O1 q (fun _ => q) q q
 exact O1 q (fun _ => q) q q
 exact O1 q (fun _ => q) q q
 exact O1 q (fun _ => q) q q
 exact O1 q (fun _ => q) q q
 exact O1 q (fun _ => q) q q
 exact O1 q (fun _ => q) q q
 exact O1 q (fun _ => q) q q
 exact O1 q (fun _ => q) q q
 exact O1 q (fun _ => q) q q
 exact O1 q (fun _ => q) q q
 exact O1 q (fun _ => q) q q
 exact O1 q (fun _ => q) q q
 exact O1 q (fun _ => q) q q
 exact O1 q (fun _ => q) q q
 exact O1 q (fun _ => q) q q
 exact O1 q (fun _ => q) q q
 exact O1 q (fun _ => q) q q
 exact O1 q (fun _ => q) q q
 exact O1 q (fun _ => q) q q
 exact O1 q (fun _ => q) q q
 exact O1 q (fun _ => q) q q
 exact O1 q (fun _ => q) q q
 exact O1 q (fun _ => q) q q
 exact O1 q (fun _ => q) q q
 exact O1 q (fun _ => q) q q
 exact O1 q (fun _ => q) q q
 exact O1 q (fun _ => q) q q
 exact O1 q (fun _ => q) q q
 exact O1 q (fun _ => q) q q
 exact O1 q (fun _ => q) q q
 exact O1 q (fun _ => q) q q
 exact O1 q (fun _ => q) q q
 exact O1 q (fun _ => q) q q
 exact O1 q (fun _ => q) q q
 exact O1 q (fun _ => q) q q
 exact O1 q (fun _ => q) q q
 exact O1 q (fun _ => q) q q
 exact O1 q (fun _ => q) q q
 exact O1 q (fun _ => q) q q
 exact O1 q (fun _ => q) q q
 exact En3 h
 replace h:=condF h hb36
 rcases boolCases (!decide (r201.2.2 = 1)) with hb37 | hb37
 replace h:=condT h hb37
 apply RT [_,_,_,_,_,_,_,_,_,_,_,_,_,_,_,_,_,_,_,_,_,_,_,_,_,_,_,_,_,_,_,_,_,_,_,_,_,_,_,_,_,_,_,_,_,_,_,_,_,_,_,_,_,_,_,_,_,_,_,_,_,_,_,_,_,_,_,_,_,_,_,_,_,_,_] [] [] [([],[12],[0]),([],[],[0]),([0,1],[],[0]),([2],[],[0]),([3],[15],[0]),([3],[12],[0]),([4,5,3],[],[0]),([3,6],[],[0]),([7],[],[0]),([8],[18],[0]),([8],[12],[0]),([9,10,8],[],[0]),([8,11],[],[0]),([12],[],[0]),([13],[13],[0]),([14,13],[],[0]),([13],[16],[0]),([16,13],[],[0]),([15,17,13],[],[0]),([18,13],[],[0]),([13,19],[],[0]),([20],[],[0]),([21],[20],[0]),([22,21],[],[0]),([21,23],[],[0]),([24],[],[0]),([25],[14],[0]),([26,25],[],[0]),([25,27],[],[0]),([28],[],[0]),([29],[17],[0]),([30,29],[],[0]),([29,31],[],[0]),([32],[],[0]),([33],[],[0]),([33],[],[0]),([33,35],[],[0]),([36],[],[0]),([37],[],[0]),([37],[],[0]),([37,39],[],[0]),([40],[],[0]),([41],[],[0]),([41],[],[0]),([41],[],[0]),([41],[],[0]),([41],[],[0]),([41],[],[0]),([41],[],[0]),([41],[],[0]),([41],[],[0]),([41,50],[],[0]),([51],[],[0]),([52],[],[0]),([52],[],[0]),([52],[],[0]),([52],[],[0]),([52],[],[0]),([52],[],[0]),([52],[],[0]),([52],[],[0]),([52],[],[0]),([52],[],[0]),([52],[],[0]),([52],[],[0]),([52],[],[0]),([52],[],[0]),([52],[],[0]),([52],[],[0]),([52],[],[0]),([52],[],[0]),([52],[],[0]),([52],[],[0]),([52],[],[0]),([52,73],[],[0])] (by kernel_rfl) (by kernel_rfl) q q
 refine ⟨?_,?_,?_,?_,?_,?_,?_,?_,?_,?_,?_,?_,?_,?_,?_,?_,?_,?_,?_,?_,?_,?_,?_,?_,?_,?_,?_,?_,?_,?_,?_,?_,?_,?_,?_,?_,?_,?_,?_,?_,?_,?_,?_,?_,?_,?_,?_,?_,?_,?_,?_,?_,?_,?_,?_,?_,?_,?_,?_,?_,?_,?_,?_,?_,?_,?_,?_,?_,?_,?_,?_,?_,?_,?_,?_,Zt⟩
 exact O1 q (fun _ => q) q q
 refine ⟨fun F => ?_,Zt⟩
 exact Zq (y_build p41 z41 q q) q (Zd q q q)
 refine ⟨fun F => ?_,Zt⟩
 exact Zq (y_nest (xs:=(V41 r199.1)) (ys:=z19) q41 q (Le.agd (Zs _)) q (Le.agd (Zs _)) q q q) q (Zd q q q)
 refine ⟨fun F => ?_,Zt⟩
 exact Rl 1 q (WL.cast 73 q (Le.ofd (Cb hb31)) (WL.done2 q q q))
 exact O1 q (fun _ => q) q q
 exact O1 q (fun _ => q) q q
 refine ⟨fun F => ?_,Zt⟩
 exact Zy (y_nest (xs:=(V41 r201.1)) (ys:=(V41 r199.1)) q41 q (Le.agd (Zs _)) q (Le.agd (Zs _)) q q q) q q q (Zd q q q)
 exact O1 q (fun _ => q) q q
 refine ⟨fun F => ?_,Zt⟩
 exact Rl 1 q (WL.cast 78 q (Le.ofd (Cb hb32)) (WL.done2 q q q))
 exact O1 q (fun _ => q) q q
 exact O1 q (fun _ => q) q q
 refine ⟨fun F => ?_,Zt⟩
 exact Zy (y_nest (xs:=(V41 r203.1)) (ys:=(V41 r199.1)) q41 q (Le.agd (Zs _)) q (Le.agd (Zs _)) q q q) q q q (Zd q q q)
 exact O1 q (fun _ => q) q q
 refine ⟨fun F => ?_,Zt⟩
 exact Rl 1 q (WL.cast 83 q (Le.ofd (Cb hb33)) (WL.done2 q q q))
 exact O1 q (fun _ => q) q q
 refine ⟨fun F => ?_,Zt⟩
 exact Zy (y_len_map E58 r199.2.1 e50 q q Zl) q q q (Zd q q q)
 exact O1 q (fun _ => q) q q
 refine ⟨fun F => ?_,Zt⟩
 exact Zy (y_len_map E58 r201.2.1 e50 q q Zl) q q q (Zd q q q)
 exact O1 q (fun _ => q) q q
 exact O1 q (fun _ => q) q q
 exact O1 q (fun _ => q) q q
 refine ⟨fun F => ?_,Zt⟩
 exact Rl 1 q (WL.cast 91 q (Le.ofd (Cb hb34)) (WL.done2 q q q))
 exact O1 q (fun _ => q) q q
 exact O1 q (fun _ => q) q q
 exact O1 q (fun _ => q) q q
 refine ⟨fun F => ?_,Zt⟩
 exact Rl 1 q (WL.cast 95 q (Le.ofd (Cb hb35)) (WL.done2 q q q))
 exact O1 q (fun _ => q) q q
 exact O1 q (fun _ => q) q q
 exact O1 q (fun _ => q) q q
 refine ⟨fun F => ?_,Zt⟩
 exact Rl 1 q (WL.cast 99 q (Le.ofd (Cb hb36)) (WL.done2 q q q))
 exact O1 q (fun _ => q) q q
 exact O1 q (fun _ => q) q q
 exact O1 q (fun _ => q) q q
 refine ⟨fun F => ?_,Zt⟩
 exact Rl 1 q (WL.cast 103 q (Le.ofd (Cb hb37)) (WL.done2 q q q))
 exact O1 q (fun _ => q) q q
 exact O1 q (fun _ => q) q q
 exact O1 q (fun _ => q) q q
 exact O1 q (fun _ => q) q q
 exact O1 q (fun _ => q) q q
 exact O1 q (fun _ => q) q q
 exact O1 q (fun _ => q) q q
 exact O1 q (fun _ => q) q q
 exact O1 q (fun _ => q) q q
 exact O1 q (fun _ => q) q q
 exact O1 q (fun _ => q) q q
 exact O1 q (fun _ => q) q q
 exact O1 q (fun _ => q) q q
 exact O1 q (fun _ => q) q q
 exact O1 q (fun _ => q) q q
 exact O1 q (fun _ => q) q q
 exact O1 q (fun _ => q) q q
 exact O1 q (fun _ => q) q q
 exact O1 q (fun _ => q) q q
 exact O1 q (fun _ => q) q q
 exact O1 q (fun _ => q) q q
 exact O1 q (fun _ => q) q q
 exact O1 q (fun _ => q) q q
 exact O1 q (fun _ => q) q q
 exact O1 q (fun _ => q) q q
 exact O1 q (fun _ => q) q q
 exact O1 q (fun _ => q) q q
 exact O1 q (fun _ => q) q q
 exact O1 q (fun _ => q) q q
 exact O1 q (fun _ => q) q q
 exact O1 q (fun _ => q) q q
 exact O1 q (fun _ => q) q q
 exact O1 q (fun _ => q) q q
 exact O1 q (fun _ => q) q q
 exact O1 q (fun _ => q) q q
 exact O1 q (fun _ => q) q q
 exact O1 q (fun _ => q) q q
 exact O1 q (fun _ => q) q q
 exact O1 q (fun _ => q) q q
 exact O1 q (fun _ => q) q q
 exact O1 q (fun _ => q) q q
 exact En3 h
 replace h:=condF h hb37
 rcases boolCases (!decide (r203.2 = 1)) with hb38 | hb38
 replace h:=condT h hb38
 apply RT [_,_,_,_,_,_,_,_,_,_,_,_,_,_,_,_,_,_,_,_,_,_,_,_,_,_,_,_,_,_,_,_,_,_,_,_,_,_,_,_,_,_,_,_,_,_,_,_,_,_,_,_,_,_,_,_,_,_,_,_,_,_,_,_,_,_,_,_,_,_,_,_,_,_,_] [] [] [([],[12],[0]),([],[],[0]),([0,1],[],[0]),([2],[],[0]),([3],[15],[0]),([3],[12],[0]),([4,5,3],[],[0]),([3,6],[],[0]),([7],[],[0]),([8],[18],[0]),([8],[12],[0]),([9,10,8],[],[0]),([8,11],[],[0]),([12],[],[0]),([13],[13],[0]),([14,13],[],[0]),([13],[16],[0]),([16,13],[],[0]),([15,17,13],[],[0]),([18,13],[],[0]),([13,19],[],[0]),([20],[],[0]),([21],[20],[0]),([22,21],[],[0]),([21,23],[],[0]),([24],[],[0]),([25],[14],[0]),([26,25],[],[0]),([25,27],[],[0]),([28],[],[0]),([29],[17],[0]),([30,29],[],[0]),([29,31],[],[0]),([32],[],[0]),([33],[19],[0]),([34,33],[],[0]),([33,35],[],[0]),([36],[],[0]),([37],[],[0]),([37],[],[0]),([37,39],[],[0]),([40],[],[0]),([41],[],[0]),([41],[],[0]),([41],[],[0]),([41],[],[0]),([41],[],[0]),([41],[],[0]),([41],[],[0]),([41],[],[0]),([41],[],[0]),([41,50],[],[0]),([51],[],[0]),([52],[],[0]),([52],[],[0]),([52],[],[0]),([52],[],[0]),([52],[],[0]),([52],[],[0]),([52],[],[0]),([52],[],[0]),([52],[],[0]),([52],[],[0]),([52],[],[0]),([52],[],[0]),([52],[],[0]),([52],[],[0]),([52],[],[0]),([52],[],[0]),([52],[],[0]),([52],[],[0]),([52],[],[0]),([52],[],[0]),([52],[],[0]),([52,73],[],[0])] (by kernel_rfl) (by kernel_rfl) q q
 refine ⟨?_,?_,?_,?_,?_,?_,?_,?_,?_,?_,?_,?_,?_,?_,?_,?_,?_,?_,?_,?_,?_,?_,?_,?_,?_,?_,?_,?_,?_,?_,?_,?_,?_,?_,?_,?_,?_,?_,?_,?_,?_,?_,?_,?_,?_,?_,?_,?_,?_,?_,?_,?_,?_,?_,?_,?_,?_,?_,?_,?_,?_,?_,?_,?_,?_,?_,?_,?_,?_,?_,?_,?_,?_,?_,?_,Zt⟩
 exact O1 q (fun _ => q) q q
 refine ⟨fun F => ?_,Zt⟩
 exact Zq (y_build p41 z41 q q) q (Zd q q q)
 refine ⟨fun F => ?_,Zt⟩
 exact Zq (y_nest (xs:=(V41 r199.1)) (ys:=z19) q41 q (Le.agd (Zs _)) q (Le.agd (Zs _)) q q q) q (Zd q q q)
 refine ⟨fun F => ?_,Zt⟩
 exact Rl 1 q (WL.cast 73 q (Le.ofd (Cb hb31)) (WL.done2 q q q))
 exact O1 q (fun _ => q) q q
 exact O1 q (fun _ => q) q q
 refine ⟨fun F => ?_,Zt⟩
 exact Zy (y_nest (xs:=(V41 r201.1)) (ys:=(V41 r199.1)) q41 q (Le.agd (Zs _)) q (Le.agd (Zs _)) q q q) q q q (Zd q q q)
 exact O1 q (fun _ => q) q q
 refine ⟨fun F => ?_,Zt⟩
 exact Rl 1 q (WL.cast 78 q (Le.ofd (Cb hb32)) (WL.done2 q q q))
 exact O1 q (fun _ => q) q q
 exact O1 q (fun _ => q) q q
 refine ⟨fun F => ?_,Zt⟩
 exact Zy (y_nest (xs:=(V41 r203.1)) (ys:=(V41 r199.1)) q41 q (Le.agd (Zs _)) q (Le.agd (Zs _)) q q q) q q q (Zd q q q)
 exact O1 q (fun _ => q) q q
 refine ⟨fun F => ?_,Zt⟩
 exact Rl 1 q (WL.cast 83 q (Le.ofd (Cb hb33)) (WL.done2 q q q))
 exact O1 q (fun _ => q) q q
 refine ⟨fun F => ?_,Zt⟩
 exact Zy (y_len_map E58 r199.2.1 e50 q q Zl) q q q (Zd q q q)
 exact O1 q (fun _ => q) q q
 refine ⟨fun F => ?_,Zt⟩
 exact Zy (y_len_map E58 r201.2.1 e50 q q Zl) q q q (Zd q q q)
 exact O1 q (fun _ => q) q q
 exact O1 q (fun _ => q) q q
 exact O1 q (fun _ => q) q q
 refine ⟨fun F => ?_,Zt⟩
 exact Rl 1 q (WL.cast 91 q (Le.ofd (Cb hb34)) (WL.done2 q q q))
 exact O1 q (fun _ => q) q q
 exact O1 q (fun _ => q) q q
 exact O1 q (fun _ => q) q q
 refine ⟨fun F => ?_,Zt⟩
 exact Rl 1 q (WL.cast 95 q (Le.ofd (Cb hb35)) (WL.done2 q q q))
 exact O1 q (fun _ => q) q q
 exact O1 q (fun _ => q) q q
 exact O1 q (fun _ => q) q q
 refine ⟨fun F => ?_,Zt⟩
 exact Rl 1 q (WL.cast 99 q (Le.ofd (Cb hb36)) (WL.done2 q q q))
 exact O1 q (fun _ => q) q q
 exact O1 q (fun _ => q) q q
 exact O1 q (fun _ => q) q q
 refine ⟨fun F => ?_,Zt⟩
 exact Rl 1 q (WL.cast 103 q (Le.ofd (Cb hb37)) (WL.done2 q q q))
 exact O1 q (fun _ => q) q q
 exact O1 q (fun _ => q) q q
 exact O1 q (fun _ => q) q q
 refine ⟨fun F => ?_,Zt⟩
 exact Rl 1 q (WL.cast 107 q (Le.ofd (Cb hb38)) (WL.done2 q q q))
 exact O1 q (fun _ => q) q q
 exact O1 q (fun _ => q) q q
 exact O1 q (fun _ => q) q q
 exact O1 q (fun _ => q) q q
 exact O1 q (fun _ => q) q q
 exact O1 q (fun _ => q) q q
 exact O1 q (fun _ => q) q q
 exact O1 q (fun _ => q) q q
 exact O1 q (fun _ => q) q q
 exact O1 q (fun _ => q) q q
 exact O1 q (fun _ => q) q q
 exact O1 q (fun _ => q) q q
 exact O1 q (fun _ => q) q q
 exact O1 q (fun _ => q) q q
 exact O1 q (fun _ => q) q q
 exact O1 q (fun _ => q) q q
 exact O1 q (fun _ => q) q q
 exact O1 q (fun _ => q) q q
 exact O1 q (fun _ => q) q q
 exact O1 q (fun _ => q) q q
 exact O1 q (fun _ => q) q q
 exact O1 q (fun _ => q) q q
 exact O1 q (fun _ => q) q q
 exact O1 q (fun _ => q) q q
 exact O1 q (fun _ => q) q q
 exact O1 q (fun _ => q) q q
 exact O1 q (fun _ => q) q q
 exact O1 q (fun _ => q) q q
 exact O1 q (fun _ => q) q q
 exact O1 q (fun _ => q) q q
 exact O1 q (fun _ => q) q q
 exact O1 q (fun _ => q) q q
 exact O1 q (fun _ => q) q q
 exact O1 q (fun _ => q) q q
 exact O1 q (fun _ => q) q q
 exact O1 q (fun _ => q) q q
 exact O1 q (fun _ => q) q q
 exact En3 h
 replace h:=condF h hb38
 rcases boolCases (!decide (r205.2 = 1)) with hb39 | hb39
 replace h:=condT h hb39
 apply RT [_,_,_,_,_,_,_,_,_,_,_,_,_,_,_,_,_,_,_,_,_,_,_,_,_,_,_,_,_,_,_,_,_,_,_,_,_,_,_,_,_,_,_,_,_,_,_,_,_,_,_,_,_,_,_,_,_,_,_,_,_,_,_,_,_,_,_,_,_,_,_,_,_,_,_] [] [] [([],[12],[0]),([],[],[0]),([0,1],[],[0]),([2],[],[0]),([3],[15],[0]),([3],[12],[0]),([4,5,3],[],[0]),([3,6],[],[0]),([7],[],[0]),([8],[18],[0]),([8],[12],[0]),([9,10,8],[],[0]),([8,11],[],[0]),([12],[],[0]),([13],[13],[0]),([14,13],[],[0]),([13],[16],[0]),([16,13],[],[0]),([15,17,13],[],[0]),([18,13],[],[0]),([13,19],[],[0]),([20],[],[0]),([21],[20],[0]),([22,21],[],[0]),([21,23],[],[0]),([24],[],[0]),([25],[14],[0]),([26,25],[],[0]),([25,27],[],[0]),([28],[],[0]),([29],[17],[0]),([30,29],[],[0]),([29,31],[],[0]),([32],[],[0]),([33],[19],[0]),([34,33],[],[0]),([33,35],[],[0]),([36],[],[0]),([37],[21],[0]),([38,37],[],[0]),([37,39],[],[0]),([40],[],[0]),([41],[],[0]),([41],[],[0]),([41],[],[0]),([41],[],[0]),([41],[],[0]),([41],[],[0]),([41],[],[0]),([41],[],[0]),([41],[],[0]),([41,50],[],[0]),([51],[],[0]),([52],[],[0]),([52],[],[0]),([52],[],[0]),([52],[],[0]),([52],[],[0]),([52],[],[0]),([52],[],[0]),([52],[],[0]),([52],[],[0]),([52],[],[0]),([52],[],[0]),([52],[],[0]),([52],[],[0]),([52],[],[0]),([52],[],[0]),([52],[],[0]),([52],[],[0]),([52],[],[0]),([52],[],[0]),([52],[],[0]),([52],[],[0]),([52,73],[],[0])] (by kernel_rfl) (by kernel_rfl) q q
 refine ⟨?_,?_,?_,?_,?_,?_,?_,?_,?_,?_,?_,?_,?_,?_,?_,?_,?_,?_,?_,?_,?_,?_,?_,?_,?_,?_,?_,?_,?_,?_,?_,?_,?_,?_,?_,?_,?_,?_,?_,?_,?_,?_,?_,?_,?_,?_,?_,?_,?_,?_,?_,?_,?_,?_,?_,?_,?_,?_,?_,?_,?_,?_,?_,?_,?_,?_,?_,?_,?_,?_,?_,?_,?_,?_,?_,Zt⟩
 exact O1 q (fun _ => q) q q
 refine ⟨fun F => ?_,Zt⟩
 exact Zq (y_build p41 z41 q q) q (Zd q q q)
 refine ⟨fun F => ?_,Zt⟩
 exact Zq (y_nest (xs:=(V41 r199.1)) (ys:=z19) q41 q (Le.agd (Zs _)) q (Le.agd (Zs _)) q q q) q (Zd q q q)
 refine ⟨fun F => ?_,Zt⟩
 exact Rl 1 q (WL.cast 73 q (Le.ofd (Cb hb31)) (WL.done2 q q q))
 exact O1 q (fun _ => q) q q
 exact O1 q (fun _ => q) q q
 refine ⟨fun F => ?_,Zt⟩
 exact Zy (y_nest (xs:=(V41 r201.1)) (ys:=(V41 r199.1)) q41 q (Le.agd (Zs _)) q (Le.agd (Zs _)) q q q) q q q (Zd q q q)
 exact O1 q (fun _ => q) q q
 refine ⟨fun F => ?_,Zt⟩
 exact Rl 1 q (WL.cast 78 q (Le.ofd (Cb hb32)) (WL.done2 q q q))
 exact O1 q (fun _ => q) q q
 exact O1 q (fun _ => q) q q
 refine ⟨fun F => ?_,Zt⟩
 exact Zy (y_nest (xs:=(V41 r203.1)) (ys:=(V41 r199.1)) q41 q (Le.agd (Zs _)) q (Le.agd (Zs _)) q q q) q q q (Zd q q q)
 exact O1 q (fun _ => q) q q
 refine ⟨fun F => ?_,Zt⟩
 exact Rl 1 q (WL.cast 83 q (Le.ofd (Cb hb33)) (WL.done2 q q q))
 exact O1 q (fun _ => q) q q
 refine ⟨fun F => ?_,Zt⟩
 exact Zy (y_len_map E58 r199.2.1 e50 q q Zl) q q q (Zd q q q)
 exact O1 q (fun _ => q) q q
 refine ⟨fun F => ?_,Zt⟩
 exact Zy (y_len_map E58 r201.2.1 e50 q q Zl) q q q (Zd q q q)
 exact O1 q (fun _ => q) q q
 exact O1 q (fun _ => q) q q
 exact O1 q (fun _ => q) q q
 refine ⟨fun F => ?_,Zt⟩
 exact Rl 1 q (WL.cast 91 q (Le.ofd (Cb hb34)) (WL.done2 q q q))
 exact O1 q (fun _ => q) q q
 exact O1 q (fun _ => q) q q
 exact O1 q (fun _ => q) q q
 refine ⟨fun F => ?_,Zt⟩
 exact Rl 1 q (WL.cast 95 q (Le.ofd (Cb hb35)) (WL.done2 q q q))
 exact O1 q (fun _ => q) q q
 exact O1 q (fun _ => q) q q
 exact O1 q (fun _ => q) q q
 refine ⟨fun F => ?_,Zt⟩
 exact Rl 1 q (WL.cast 99 q (Le.ofd (Cb hb36)) (WL.done2 q q q))
 exact O1 q (fun _ => q) q q
 exact O1 q (fun _ => q) q q
 exact O1 q (fun _ => q) q q
 refine ⟨fun F => ?_,Zt⟩
 exact Rl 1 q (WL.cast 103 q (Le.ofd (Cb hb37)) (WL.done2 q q q))
 exact O1 q (fun _ => q) q q
 exact O1 q (fun _ => q) q q
 exact O1 q (fun _ => q) q q
 refine ⟨fun F => ?_,Zt⟩
 exact Rl 1 q (WL.cast 107 q (Le.ofd (Cb hb38)) (WL.done2 q q q))
 exact O1 q (fun _ => q) q q
 exact O1 q (fun _ => q) q q
 exact O1 q (fun _ => q) q q
 refine ⟨fun F => ?_,Zt⟩
 exact Rl 1 q (WL.cast 111 q (Le.ofd (Cb hb39)) (WL.done2 q q q))
 exact O1 q (fun _ => q) q q
 exact O1 q (fun _ => q) q q
 exact O1 q (fun _ => q) q q
 exact O1 q (fun _ => q) q q
 exact O1 q (fun _ => q) q q
 exact O1 q (fun _ => q) q q
 exact O1 q (fun _ => q) q q
 exact O1 q (fun _ => q) q q
 exact O1 q (fun _ => q) q q
 exact O1 q (fun _ => q) q q
 exact O1 q (fun _ => q) q q
 exact O1 q (fun _ => q) q q
 exact O1 q (fun _ => q) q q
 exact O1 q (fun _ => q) q q
 exact O1 q (fun _ => q) q q
 exact O1 q (fun _ => q) q q
 exact O1 q (fun _ => q) q q
 exact O1 q (fun _ => q) q q
 exact O1 q (fun _ => q) q q
 exact O1 q (fun _ => q) q q
 exact O1 q (fun _ => q) q q
 exact O1 q (fun _ => q) q q
 exact O1 q (fun _ => q) q q
 exact O1 q (fun _ => q) q q
 exact O1 q (fun _ => q) q q
 exact O1 q (fun _ => q) q q
 exact O1 q (fun _ => q) q q
 exact O1 q (fun _ => q) q q
 exact O1 q (fun _ => q) q q
 exact O1 q (fun _ => q) q q
 exact O1 q (fun _ => q) q q
 exact O1 q (fun _ => q) q q
 exact O1 q (fun _ => q) q q
 exact En3 h
 replace h:=condF h hb39
 obtain ⟨r211,hr211,h⟩:=bindS h
 rcases boolCases (!decide (r211.1 = 1)) with hb40 | hb40
 replace h:=condT h hb40
 apply R1x [_,_,_,_,_,_,_,_,_,_,_,_,_,_,_,_,_,_,_,_,_,_,_,_,_,_,_,_,_,_,_,_,_,_,_,_,_,_,_,_,_,_,_,_,_,_,_,_,_,_,_,_,_,_,_,_,_,_,_,_,_,_,_,_,_,_,_,_,_,_,_,_,_,_,_] 49 (0) (fun (x : Nat) => [.row 90 [.l E45 [],.l E108 [],.l E101 [],.n 0,.os 1 0,.l E2 r199.2.2.2.1,.os 3 i3_200],.os 42 1 0 (famE 2 x (List.length r211.2)),.fam 2 1 x (famM E2 r211.2),.os 2 1 i3_200 (eM E2 r199.2.2.2.2.2),.os 46 1 0 [[.d (.v (.pointer none))],[.pt 0 0]],.row 41 (vecA 16 (fun j => .n (r181.1.r j)) ++ ([.n r181.1.pc,.n r181.1.exc,.n r181.1.defer] : List AV)),.row 41 (vecA 16 (fun j => .n (r183.1.r j)) ++ ([.n r183.1.pc,.n r183.1.exc,.n r183.1.defer] : List AV)),.row 41 (vecA 16 (fun j => .n (r185.1.r j)) ++ ([.n r185.1.pc,.n r185.1.exc,.n r185.1.defer] : List AV)),.row 41 (vecA 16 (fun j => .n (r199.1.r j)) ++ ([.n r199.1.pc,.n r199.1.exc,.n r199.1.defer] : List AV)),.row 41 (vecA 16 (fun j => .n (r201.1.r j)) ++ ([.n r201.1.pc,.n r201.1.exc,.n r201.1.defer] : List AV)),.row 41 (vecA 16 (fun j => .n (r203.1.r j)) ++ ([.n r203.1.pc,.n r203.1.exc,.n r203.1.defer] : List AV))]) [([],[12],[[false]]),([],[],[[false]]),([0,1],[],[[false]]),([2],[],[[false]]),([3],[15],[[false]]),([3],[12],[[false]]),([4,5,3],[],[[false]]),([3,6],[],[[false]]),([7],[],[[false]]),([8],[18],[[false]]),([8],[12],[[false]]),([9,10,8],[],[[false]]),([8,11],[],[[false]]),([12],[],[[false]]),([13],[13],[[false]]),([14,13],[],[[false]]),([13],[16],[[false]]),([16,13],[],[[false]]),([15,17,13],[],[[false]]),([18,13],[],[[false]]),([13,19],[],[[false]]),([20],[],[[false]]),([21],[20],[[false]]),([22,21],[],[[false]]),([21,23],[],[[false]]),([24],[],[[false]]),([25],[14],[[false]]),([26,25],[],[[false]]),([25,27],[],[[false]]),([28],[],[[false]]),([29],[17],[[false]]),([30,29],[],[[false]]),([29,31],[],[[false]]),([32],[],[[false]]),([33],[19],[[false]]),([34,33],[],[[false]]),([33,35],[],[[false]]),([36],[],[[false]]),([37],[21],[[false]]),([38,37],[],[[false]]),([37,39],[],[[false]]),([40],[],[[false]]),([41],[10],[[false]]),([41],[11],[[false]]),([42,43,41],[],[[false]]),([44,41],[],[[false]]),([41],[1],[[false]]),([41],[2],[[false]]),([41],[3],[[false]]),([45,46,47,48,41],[],[[false]]),([49,41],[],[[true]]),([41,50],[],[[true]]),([51],[],[[true]]),([52],[],[[true]]),([52],[],[[true]]),([52],[],[[true]]),([52],[],[[true]]),([52],[],[[true]]),([52],[],[[true]]),([52],[],[[true]]),([52],[],[[true]]),([52],[],[[true]]),([52],[],[[true]]),([52],[],[[true]]),([52],[],[[true]]),([52],[],[[true]]),([52],[],[[true]]),([52],[],[[true]]),([52],[],[[true]]),([52],[],[[true]]),([52],[],[[true]]),([52],[],[[true]]),([52],[],[[true]]),([52],[],[[true]]),([52,73],[],[[true]])] (by kernel_rfl) (by kernel_rfl) q q
 refine ⟨?_,?_,?_,?_,?_,?_,?_,?_,?_,?_,?_,?_,?_,?_,?_,?_,?_,?_,?_,?_,?_,?_,?_,?_,?_,?_,?_,?_,?_,?_,?_,?_,?_,?_,?_,?_,?_,?_,?_,?_,?_,?_,?_,?_,?_,?_,?_,?_,?_,?_,?_,?_,?_,?_,?_,?_,?_,?_,?_,?_,?_,?_,?_,?_,?_,?_,?_,?_,?_,?_,?_,?_,?_,?_,?_,Zt⟩
 exact ⟨Ox fun x => O3 q (fun _ => q) q q,Zt⟩
 refine ⟨Ox fun x F => ?_,Zt⟩
 exact Zq (y_build p41 z41 q q) q (Zd q q q)
 refine ⟨Ox fun x F => ?_,Zt⟩
 exact Zq (y_nest (xs:=(V41 r199.1)) (ys:=z19) q41 q (Le.agd (Zs _)) q (Le.agd (Zs _)) q q q) q (Zd q q q)
 refine ⟨Ox fun x F => ?_,Zt⟩
 exact Rl 1 q (WL.cast 73 q (Le.ofd (Cb hb31)) (WL.done2 q q q))
 exact ⟨Ox fun x => O3 q (fun _ => q) q q,Zt⟩
 exact ⟨Ox fun x => O3 q (fun _ => q) q q,Zt⟩
 refine ⟨Ox fun x F => ?_,Zt⟩
 exact Zy (y_nest (xs:=(V41 r201.1)) (ys:=(V41 r199.1)) q41 q (Le.agd (Zs _)) q (Le.agd (Zs _)) q q q) q q q (Zd q q q)
 exact ⟨Ox fun x => O3 q (fun _ => q) q q,Zt⟩
 refine ⟨Ox fun x F => ?_,Zt⟩
 exact Rl 1 q (WL.cast 78 q (Le.ofd (Cb hb32)) (WL.done2 q q q))
 exact ⟨Ox fun x => O3 q (fun _ => q) q q,Zt⟩
 exact ⟨Ox fun x => O3 q (fun _ => q) q q,Zt⟩
 refine ⟨Ox fun x F => ?_,Zt⟩
 exact Zy (y_nest (xs:=(V41 r203.1)) (ys:=(V41 r199.1)) q41 q (Le.agd (Zs _)) q (Le.agd (Zs _)) q q q) q q q (Zd q q q)
 exact ⟨Ox fun x => O3 q (fun _ => q) q q,Zt⟩
 refine ⟨Ox fun x F => ?_,Zt⟩
 exact Rl 1 q (WL.cast 83 q (Le.ofd (Cb hb33)) (WL.done2 q q q))
 exact ⟨Ox fun x => O3 q (fun _ => q) q q,Zt⟩
 refine ⟨Ox fun x F => ?_,Zt⟩
 exact Zy (y_len_map E58 r199.2.1 e50 q q Zl) q q q (Zd q q q)
 exact ⟨Ox fun x => O3 q (fun _ => q) q q,Zt⟩
 refine ⟨Ox fun x F => ?_,Zt⟩
 exact Zy (y_len_map E58 r201.2.1 e50 q q Zl) q q q (Zd q q q)
 exact ⟨Ox fun x => O3 q (fun _ => q) q q,Zt⟩
 exact ⟨Ox fun x => O3 q (fun _ => q) q q,Zt⟩
 exact ⟨Ox fun x => O3 q (fun _ => q) q q,Zt⟩
 refine ⟨Ox fun x F => ?_,Zt⟩
 exact Rl 1 q (WL.cast 91 q (Le.ofd (Cb hb34)) (WL.done2 q q q))
 exact ⟨Ox fun x => O3 q (fun _ => q) q q,Zt⟩
 exact ⟨Ox fun x => O3 q (fun _ => q) q q,Zt⟩
 exact ⟨Ox fun x => O3 q (fun _ => q) q q,Zt⟩
 refine ⟨Ox fun x F => ?_,Zt⟩
 exact Rl 1 q (WL.cast 95 q (Le.ofd (Cb hb35)) (WL.done2 q q q))
 exact ⟨Ox fun x => O3 q (fun _ => q) q q,Zt⟩
 exact ⟨Ox fun x => O3 q (fun _ => q) q q,Zt⟩
 exact ⟨Ox fun x => O3 q (fun _ => q) q q,Zt⟩
 refine ⟨Ox fun x F => ?_,Zt⟩
 exact Rl 1 q (WL.cast 99 q (Le.ofd (Cb hb36)) (WL.done2 q q q))
 exact ⟨Ox fun x => O3 q (fun _ => q) q q,Zt⟩
 exact ⟨Ox fun x => O3 q (fun _ => q) q q,Zt⟩
 exact ⟨Ox fun x => O3 q (fun _ => q) q q,Zt⟩
 refine ⟨Ox fun x F => ?_,Zt⟩
 exact Rl 1 q (WL.cast 103 q (Le.ofd (Cb hb37)) (WL.done2 q q q))
 exact ⟨Ox fun x => O3 q (fun _ => q) q q,Zt⟩
 exact ⟨Ox fun x => O3 q (fun _ => q) q q,Zt⟩
 exact ⟨Ox fun x => O3 q (fun _ => q) q q,Zt⟩
 refine ⟨Ox fun x F => ?_,Zt⟩
 exact Rl 1 q (WL.cast 107 q (Le.ofd (Cb hb38)) (WL.done2 q q q))
 exact ⟨Ox fun x => O3 q (fun _ => q) q q,Zt⟩
 exact ⟨Ox fun x => O3 q (fun _ => q) q q,Zt⟩
 exact ⟨Ox fun x => O3 q (fun _ => q) q q,Zt⟩
 refine ⟨Ox fun x F => ?_,Zt⟩
 exact Rl 1 q (WL.cast 111 q (Le.ofd (Cb hb39)) (WL.done2 q q q))
 exact ⟨Ox fun x => O3 q (fun _ => q) q q,Zt⟩
 exact ⟨Ox fun x => O3 q (fun _ => q) q q,Zt⟩
 refine ⟨Ox fun x F => ?_,Zt⟩
 exact Zy (y_indexAddr_os e91 q q q (by decide) (by decide)) q q q (Zd q q q)
 refine ⟨Ox fun x F => ?_,Zt⟩
 exact Zy (y_load_pe q q a46 q) q q q (Zd q q q)
 exact ⟨Ox fun x => O3 q (fun _ => q) q q,Zt⟩
 exact ⟨Ox fun x => O3 q (fun _ => q) q q,Zt⟩
 exact ⟨Ox fun x => O3 q (fun _ => q) q q,Zt⟩
 refine ⟨Oy fun x F => ?_,Zt⟩
 refine WL.wing [0,1,2,3] q q q q (f26_c _ _ _ _ _ _ _ _ _ _ hr211) ⟨Zl,Zl,Zl,Zl,Zt⟩ q (by decide) (Re (Rg (Rf (Ro q)))) ⟨q,q,q,q,Zt⟩ Kv q (Wt.yes q q q) q q (fun r' new hS => ?_)
 obtain ⟨i2_212,rfl,rfl⟩:=hS
 refine ⟨_,_,q,(Re (Rg (Rf (Ro q)))),q,Kv,?_⟩
 exact Zx (i2_212) q q q
 exact ⟨Ox fun x => O3 q (fun _ => q) q q,Zt⟩
 exact ⟨Ox fun x => O3 q (fun _ => q) q q,Zt⟩
 refine ⟨Ox fun x F => ?_,Zt⟩
 exact Rl 1 q (WL.cast 122 q (Le.ofd (Cb hb40)) (WL.done2 q q q))
 exact ⟨Ox fun x => O3 q (fun _ => q) q q,Zt⟩
 exact ⟨Ox fun x => O3 q (fun _ => q) q q,Zt⟩
 exact ⟨Ox fun x => O3 q (fun _ => q) q q,Zt⟩
 exact ⟨Ox fun x => O3 q (fun _ => q) q q,Zt⟩
 exact ⟨Ox fun x => O3 q (fun _ => q) q q,Zt⟩
 exact ⟨Ox fun x => O3 q (fun _ => q) q q,Zt⟩
 exact ⟨Ox fun x => O3 q (fun _ => q) q q,Zt⟩
 exact ⟨Ox fun x => O3 q (fun _ => q) q q,Zt⟩
 exact ⟨Ox fun x => O3 q (fun _ => q) q q,Zt⟩
 exact ⟨Ox fun x => O3 q (fun _ => q) q q,Zt⟩
 exact ⟨Ox fun x => O3 q (fun _ => q) q q,Zt⟩
 exact ⟨Ox fun x => O3 q (fun _ => q) q q,Zt⟩
 exact ⟨Ox fun x => O3 q (fun _ => q) q q,Zt⟩
 exact ⟨Ox fun x => O3 q (fun _ => q) q q,Zt⟩
 exact ⟨Ox fun x => O3 q (fun _ => q) q q,Zt⟩
 exact ⟨Ox fun x => O3 q (fun _ => q) q q,Zt⟩
 exact ⟨Ox fun x => O3 q (fun _ => q) q q,Zt⟩
 exact ⟨Ox fun x => O3 q (fun _ => q) q q,Zt⟩
 exact ⟨Ox fun x => O3 q (fun _ => q) q q,Zt⟩
 exact ⟨Ox fun x => O3 q (fun _ => q) q q,Zt⟩
 exact ⟨Ox fun x => O3 q (fun _ => q) q q,Zt⟩
 exact ⟨Ox fun x => O3 q (fun _ => q) q q,Zt⟩
 intro i2_212
 exact En3 h
 replace h:=condF h hb40
 obtain ⟨r213,hr213,h⟩:=bindS h
 obtain ⟨r215,hr215,h⟩:=bindS h
 obtain ⟨r217,hr217,h⟩:=bindS h
 apply R1x [_,_,_,_,_,_,_,_,_,_,_,_,_,_,_,_,_,_,_,_,_,_,_,_,_,_,_,_,_,_,_,_,_,_,_,_,_,_,_,_,_,_,_,_,_,_,_,_,_,_,_,_,_,_,_,_,_,_,_,_,_,_,_,_,_,_,_,_,_,_,_,_,_,_,_] 49 (0) (fun (x : Nat) => [.row 90 [.l E45 [],.l E108 [],.l E101 [],.n 0,.os 1 0,.l E2 r199.2.2.2.1,.os 3 i3_200],.os 42 1 0 (famE 2 x (List.length r211.2)),.fam 2 1 x (famM E2 r211.2),.os 2 1 i3_200 (eM E2 r199.2.2.2.2.2),.os 46 1 0 [[.d (.v (.pointer none))],[.pt 0 0]],.row 41 (vecA 16 (fun j => .n (r181.1.r j)) ++ ([.n r181.1.pc,.n r181.1.exc,.n r181.1.defer] : List AV)),.row 41 (vecA 16 (fun j => .n (r183.1.r j)) ++ ([.n r183.1.pc,.n r183.1.exc,.n r183.1.defer] : List AV)),.row 41 (vecA 16 (fun j => .n (r185.1.r j)) ++ ([.n r185.1.pc,.n r185.1.exc,.n r185.1.defer] : List AV)),.row 41 (vecA 16 (fun j => .n (r199.1.r j)) ++ ([.n r199.1.pc,.n r199.1.exc,.n r199.1.defer] : List AV)),.row 41 (vecA 16 (fun j => .n (r201.1.r j)) ++ ([.n r201.1.pc,.n r201.1.exc,.n r201.1.defer] : List AV)),.row 41 (vecA 16 (fun j => .n (r203.1.r j)) ++ ([.n r203.1.pc,.n r203.1.exc,.n r203.1.defer] : List AV))]) [([],[12],[[false]]),([],[],[[false]]),([0,1],[],[[false]]),([2],[],[[false]]),([3],[15],[[false]]),([3],[12],[[false]]),([4,5,3],[],[[false]]),([3,6],[],[[false]]),([7],[],[[false]]),([8],[18],[[false]]),([8],[12],[[false]]),([9,10,8],[],[[false]]),([8,11],[],[[false]]),([12],[],[[false]]),([13],[13],[[false]]),([14,13],[],[[false]]),([13],[16],[[false]]),([16,13],[],[[false]]),([15,17,13],[],[[false]]),([18,13],[],[[false]]),([13,19],[],[[false]]),([20],[],[[false]]),([21],[20],[[false]]),([22,21],[],[[false]]),([21,23],[],[[false]]),([24],[],[[false]]),([25],[14],[[false]]),([26,25],[],[[false]]),([25,27],[],[[false]]),([28],[],[[false]]),([29],[17],[[false]]),([30,29],[],[[false]]),([29,31],[],[[false]]),([32],[],[[false]]),([33],[19],[[false]]),([34,33],[],[[false]]),([33,35],[],[[false]]),([36],[],[[false]]),([37],[21],[[false]]),([38,37],[],[[false]]),([37,39],[],[[false]]),([40],[],[[false]]),([41],[10],[[false]]),([41],[11],[[false]]),([42,43,41],[],[[false]]),([44,41],[],[[false]]),([41],[1],[[false]]),([41],[2],[[false]]),([41],[3],[[false]]),([45,46,47,48,41],[],[[false]]),([49,41],[],[[true]]),([41,50],[],[[true]]),([51],[],[[true]]),([52],[10],[[true]]),([52],[11],[[true]]),([53,54,52],[],[[true]]),([55,52],[],[[true]]),([56,52],[],[[true]]),([57,52],[],[[true]]),([52],[10],[[true]]),([52],[11],[[true]]),([59,60,52],[],[[true]]),([61,52],[],[[true]]),([62,52],[],[[true]]),([63,52],[],[[true]]),([58,64,52],[],[[true]]),([52],[10],[[true]]),([52],[11],[[true]]),([66,67,52],[],[[true]]),([68,52],[],[[true]]),([69,52],[],[[true]]),([70,52],[],[[true]]),([65,71,52],[],[[true]]),([72,52],[],[[true]]),([52,73],[],[[true]])] (by kernel_rfl) (by kernel_rfl) q q
 refine ⟨?_,?_,?_,?_,?_,?_,?_,?_,?_,?_,?_,?_,?_,?_,?_,?_,?_,?_,?_,?_,?_,?_,?_,?_,?_,?_,?_,?_,?_,?_,?_,?_,?_,?_,?_,?_,?_,?_,?_,?_,?_,?_,?_,?_,?_,?_,?_,?_,?_,?_,?_,?_,?_,?_,?_,?_,?_,?_,?_,?_,?_,?_,?_,?_,?_,?_,?_,?_,?_,?_,?_,?_,?_,?_,?_,Zt⟩
 exact ⟨Ox fun x => O3 q (fun _ => q) q q,Zt⟩
 refine ⟨Ox fun x F => ?_,Zt⟩
 exact Zq (y_build p41 z41 q q) q (Zd q q q)
 refine ⟨Ox fun x F => ?_,Zt⟩
 exact Zq (y_nest (xs:=(V41 r199.1)) (ys:=z19) q41 q (Le.agd (Zs _)) q (Le.agd (Zs _)) q q q) q (Zd q q q)
 refine ⟨Ox fun x F => ?_,Zt⟩
 exact Rl 1 q (WL.cast 73 q (Le.ofd (Cb hb31)) (WL.done2 q q q))
 exact ⟨Ox fun x => O3 q (fun _ => q) q q,Zt⟩
 exact ⟨Ox fun x => O3 q (fun _ => q) q q,Zt⟩
 refine ⟨Ox fun x F => ?_,Zt⟩
 exact Zy (y_nest (xs:=(V41 r201.1)) (ys:=(V41 r199.1)) q41 q (Le.agd (Zs _)) q (Le.agd (Zs _)) q q q) q q q (Zd q q q)
 exact ⟨Ox fun x => O3 q (fun _ => q) q q,Zt⟩
 refine ⟨Ox fun x F => ?_,Zt⟩
 exact Rl 1 q (WL.cast 78 q (Le.ofd (Cb hb32)) (WL.done2 q q q))
 exact ⟨Ox fun x => O3 q (fun _ => q) q q,Zt⟩
 exact ⟨Ox fun x => O3 q (fun _ => q) q q,Zt⟩
 refine ⟨Ox fun x F => ?_,Zt⟩
 exact Zy (y_nest (xs:=(V41 r203.1)) (ys:=(V41 r199.1)) q41 q (Le.agd (Zs _)) q (Le.agd (Zs _)) q q q) q q q (Zd q q q)
 exact ⟨Ox fun x => O3 q (fun _ => q) q q,Zt⟩
 refine ⟨Ox fun x F => ?_,Zt⟩
 exact Rl 1 q (WL.cast 83 q (Le.ofd (Cb hb33)) (WL.done2 q q q))
 exact ⟨Ox fun x => O3 q (fun _ => q) q q,Zt⟩
 refine ⟨Ox fun x F => ?_,Zt⟩
 exact Zy (y_len_map E58 r199.2.1 e50 q q Zl) q q q (Zd q q q)
 exact ⟨Ox fun x => O3 q (fun _ => q) q q,Zt⟩
 refine ⟨Ox fun x F => ?_,Zt⟩
 exact Zy (y_len_map E58 r201.2.1 e50 q q Zl) q q q (Zd q q q)
 exact ⟨Ox fun x => O3 q (fun _ => q) q q,Zt⟩
 exact ⟨Ox fun x => O3 q (fun _ => q) q q,Zt⟩
 exact ⟨Ox fun x => O3 q (fun _ => q) q q,Zt⟩
 refine ⟨Ox fun x F => ?_,Zt⟩
 exact Rl 1 q (WL.cast 91 q (Le.ofd (Cb hb34)) (WL.done2 q q q))
 exact ⟨Ox fun x => O3 q (fun _ => q) q q,Zt⟩
 exact ⟨Ox fun x => O3 q (fun _ => q) q q,Zt⟩
 exact ⟨Ox fun x => O3 q (fun _ => q) q q,Zt⟩
 refine ⟨Ox fun x F => ?_,Zt⟩
 exact Rl 1 q (WL.cast 95 q (Le.ofd (Cb hb35)) (WL.done2 q q q))
 exact ⟨Ox fun x => O3 q (fun _ => q) q q,Zt⟩
 exact ⟨Ox fun x => O3 q (fun _ => q) q q,Zt⟩
 exact ⟨Ox fun x => O3 q (fun _ => q) q q,Zt⟩
 refine ⟨Ox fun x F => ?_,Zt⟩
 exact Rl 1 q (WL.cast 99 q (Le.ofd (Cb hb36)) (WL.done2 q q q))
 exact ⟨Ox fun x => O3 q (fun _ => q) q q,Zt⟩
 exact ⟨Ox fun x => O3 q (fun _ => q) q q,Zt⟩
 exact ⟨Ox fun x => O3 q (fun _ => q) q q,Zt⟩
 refine ⟨Ox fun x F => ?_,Zt⟩
 exact Rl 1 q (WL.cast 103 q (Le.ofd (Cb hb37)) (WL.done2 q q q))
 exact ⟨Ox fun x => O3 q (fun _ => q) q q,Zt⟩
 exact ⟨Ox fun x => O3 q (fun _ => q) q q,Zt⟩
 exact ⟨Ox fun x => O3 q (fun _ => q) q q,Zt⟩
 refine ⟨Ox fun x F => ?_,Zt⟩
 exact Rl 1 q (WL.cast 107 q (Le.ofd (Cb hb38)) (WL.done2 q q q))
 exact ⟨Ox fun x => O3 q (fun _ => q) q q,Zt⟩
 exact ⟨Ox fun x => O3 q (fun _ => q) q q,Zt⟩
 exact ⟨Ox fun x => O3 q (fun _ => q) q q,Zt⟩
 refine ⟨Ox fun x F => ?_,Zt⟩
 exact Rl 1 q (WL.cast 111 q (Le.ofd (Cb hb39)) (WL.done2 q q q))
 exact ⟨Ox fun x => O3 q (fun _ => q) q q,Zt⟩
 exact ⟨Ox fun x => O3 q (fun _ => q) q q,Zt⟩
 refine ⟨Ox fun x F => ?_,Zt⟩
 exact Zy (y_indexAddr_os e91 q q q (by decide) (by decide)) q q q (Zd q q q)
 refine ⟨Ox fun x F => ?_,Zt⟩
 exact Zy (y_load_pe q q a46 q) q q q (Zd q q q)
 exact ⟨Ox fun x => O3 q (fun _ => q) q q,Zt⟩
 exact ⟨Ox fun x => O3 q (fun _ => q) q q,Zt⟩
 exact ⟨Ox fun x => O3 q (fun _ => q) q q,Zt⟩
 refine ⟨Oy fun x F => ?_,Zt⟩
 refine WL.wing [0,1,2,3] q q q q (f26_c _ _ _ _ _ _ _ _ _ _ hr211) ⟨Zl,Zl,Zl,Zl,Zt⟩ q (by decide) (Re (Rg (Rf (Ro q)))) ⟨q,q,q,q,Zt⟩ Kv q (Wt.yes q q q) q q (fun r' new hS => ?_)
 obtain ⟨i2_212,rfl,rfl⟩:=hS
 refine ⟨_,_,q,(Re (Rg (Rf (Ro q)))),q,Kv,?_⟩
 exact Zx (i2_212) q q q
 exact ⟨Ox fun x => O3 q (fun _ => q) q q,Zt⟩
 exact ⟨Ox fun x => O3 q (fun _ => q) q q,Zt⟩
 refine ⟨Ox fun x F => ?_,Zt⟩
 exact Rl 1 q (WL.cast 122 q (Le.ofd (Cb hb40)) (WL.done2 q q q))
 exact ⟨Ox fun x => O3 q (fun _ => q) q q,Zt⟩
 exact ⟨Ox fun x => O3 q (fun _ => q) q q,Zt⟩
 refine ⟨Ox fun x F => ?_,Zt⟩
 exact Zy (y_indexAddr_os e91 q q q (by decide) (by decide)) q q q (Zd q q q)
 refine ⟨Ox fun x F => ?_,Zt⟩
 exact Zy (y_load_pe q q a46 q) q q q (Zd q q q)
 refine ⟨Ox fun x F => ?_,Zt⟩
 refine WL.wing [0,1,2,3] q q q q (f28_c _ _ _ _ _ _ _ hr213) ⟨Zl,Zt⟩ q (by decide) (Re (Rg (Rf (Ro q)))) ⟨q,q,q,q,Zt⟩ Kv q (Wt.yes q q q) q q (fun r' new hS => ?_)
 obtain ⟨rfl,rfl⟩:=hS
 refine ⟨_,_,q,(Re (Rg (Rf (Ro q)))),q,Kv,?_⟩
 exact Zd q q q
 refine ⟨Ox fun x F => ?_,Zt⟩
 exact Zy (y_len_map E42 r213 e62 q q Zl) q q q (Zd q q q)
 exact ⟨Ox fun x => O3 q (fun _ => q) q q,Zt⟩
 exact ⟨Ox fun x => O3 q (fun _ => q) q q,Zt⟩
 refine ⟨Ox fun x F => ?_,Zt⟩
 exact Zy (y_indexAddr_os e91 q q q (by decide) (by decide)) q q q (Zd q q q)
 refine ⟨Ox fun x F => ?_,Zt⟩
 exact Zy (y_load_pe q q a46 q) q q q (Zd q q q)
 refine ⟨Ox fun x F => ?_,Zt⟩
 refine WL.wing [0,1,2,3] q q q q (f13_c _ _ _ _ _ _ _ hr215) ⟨Zl,Zt⟩ q (by decide) (Re (Rg (Rf (Ro q)))) ⟨q,q,q,q,Zt⟩ Kv q (Wt.yes q q q) q q (fun r' new hS => ?_)
 obtain ⟨rfl,rfl⟩:=hS
 refine ⟨_,_,q,(Re (Rg (Rf (Ro q)))),q,Kv,?_⟩
 exact Zd q q q
 refine ⟨Ox fun x F => ?_,Zt⟩
 exact Zy (y_len_map E2 r215 e42 q q Zl) q q q (Zd q q q)
 exact ⟨Ox fun x => O3 q (fun _ => q) q q,Zt⟩
 exact ⟨Ox fun x => O3 q (fun _ => q) q q,Zt⟩
 exact ⟨Ox fun x => O3 q (fun _ => q) q q,Zt⟩
 refine ⟨Ox fun x F => ?_,Zt⟩
 exact Zy (y_indexAddr_os e91 q q q (by decide) (by decide)) q q q (Zd q q q)
 refine ⟨Ox fun x F => ?_,Zt⟩
 exact Zy (y_load_pe q q a46 q) q q q (Zd q q q)
 refine ⟨Ox fun x F => ?_,Zt⟩
 refine WL.wing [0,1,2,3] q q q q (f15_c _ _ _ _ _ _ _ hr217) ⟨Zl,Zt⟩ q (by decide) (Re (Rg (Rf (Ro q)))) ⟨q,q,q,q,Zt⟩ Kv q (Wt.yes q q q) q q (fun r' new hS => ?_)
 obtain ⟨rfl,rfl⟩:=hS
 refine ⟨_,_,q,(Re (Rg (Rf (Ro q)))),q,Kv,?_⟩
 exact Zd q q q
 refine ⟨Ox fun x F => ?_,Zt⟩
 exact Zy (y_len_map E2 r217 e42 q q Zl) q q q (Zd q q q)
 exact ⟨Ox fun x => O3 q (fun _ => q) q q,Zt⟩
 exact ⟨Ox fun x => O3 q (fun _ => q) q q,Zt⟩
 exact ⟨Ox fun x => O3 q (fun _ => q) q q,Zt⟩
 intro i2_212
 exact En3 h
 rintro env1 st1 ⟨t207,l208,ver209,h,hsub,hst⟩
 subst hk210
 dsimp only at h
 refine WC.sub hsub (WC.weak hst ?_)
 refine Ci h q (fun h => ?_) (fun h => ?_)
 exact Rcx 8 q (we_rl_ret (Rxx 2 q (FA h)))
 exact Rcl 5 q (Zq (y_add q q (c:=2) (by decide)) q (Rlx 2 q (we_rl (WC.sub (env':=[(1,.n o1),(2,.n k2),(3,.n v3),(4,.d (.pc (R41 r0))),(10,.os 4 0),(11,.n 2)]) (Sub.one q (Sub.one q (Sub.one q (Sub.one q (Sub.one q (Sub.one q (Sub.nil _))))))) (Rcl 5 q (Zq (y_len_os e91 q q q) q (Rlc 3 q (wc_false q (Rcx 2 q (we_rl_exit (Rxx 1 q (En29 h))))))))))))
 rintro env1 st1 ⟨l151,ver152,l153,ver154,c05155,c50156,c516157,c517158,c518159,c60160,c616161,c617162,c618163,c70164,c716165,c717166,c718167,c80168,c816169,c817170,c818171,c90172,c916173,c917174,c918175,c100176,c1016177,c1017178,c1018179,h,hsub,hst⟩
 subst hk180
 dsimp only at h
 refine WC.sub hsub (WC.weak hst ?_)
 refine Rcl 2 q ?_
 obtain ⟨r219,hr219,h⟩:=bindS h
 exact WL.fn q q q q (f9_c hr219) Zt (Zw q) q q (Rlx 4 q (FA h))

end Go.Proofs.YtkbahggepncliaaGreatDoor
