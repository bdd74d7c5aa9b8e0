/- FlowNext: for every text and every address: the call returns true and leaves its arguments as they were. No condition but the card's own: the listed variables hold what the program's text lays. -/
import Derived.SevenTiedAt
import Derived.Test.YtpodhdopgcedlaaGreatDoorCards
import Derived.Test.YtpodhdopgcedlaaGreatDoorTie
import Derived.Test.YtpodhdopgcedlaaGreatDoorVnext
import Derived.Test.YtpodhdopgcedlaaGreatDoorR
set_option linter.unusedVariables false
set_option linter.unusedSimpArgs false
set_option linter.unusedSectionVars false
set_option linter.unnecessarySimpa false
set_option maxRecDepth 100000
namespace Go.Proofs.YtpodhdopgcedlaaGreatDoor
open Go Go.Sk
open Go.ChangeShapes Go.WideShapes Go.ChangeAt Go.RowKit
theorem s8{H:Type}{enc:TypeId×Value→H}(W:World)(base:Nat)(args:Array Value)(ds:List (DataW H))(p:List MemPlace)(hX:Gl (aV W) W)(hval:∀(j:Nat) t v,Tryz.f3.params[j]? =some t→args[j]? =some v→Value.okWide Tryz.prog W .any base t v)(hA:DataW.TrodAll enc Tryz.prog W 0 (λ_=>true) true Tryz.f3.params.toList args.toList ds p):Calls Tryz.prog 3 args W λe W'=>e= .returned (.bool true)∧Go.RowKit.Below W.heap.size W W':=by
 rw[Tryz.params3] at hA hval
 obtain⟨args⟩:=args
 simp only at hA
 obtain⟨v0,vs0,d0,ds0,p0,q0,rfl,rfl,t0,hA0⟩:=iz hA
 obtain⟨v1,vs1,d1,ds1,p1,q1,rfl,rfl,t1,hA1⟩:=iz hA0
 obtain rfl:=nH hA1
 obtain⟨x0,r0,g0⟩:=m7 (λfuel=>(rd33 fuel)) t0
 obtain⟨c0,rfl⟩:=qV Tryz.underlying33 (hval 0 33 v0 rfl rfl)
 have a0:=yT r0
 obtain⟨x1,r1,g1⟩:=m7 (λfuel=>(ax Tryz.underlying3 fuel)) t1
 have a1:=yS r1 (wo Tryz.underlying3 (hval 1 3 v1 rfl rfl))
 exact pS hX (f3_c x0 x1 (uC x0 x1 g0.1 g0.2)) (by exact(aK (by simpa[RA] using a0) (aK (by simpa[RA] using a1) bB)))
theorem ph(os:Os)(started:os.Started)(H:Type)(enc:TypeId×Value→H):
  ReturnsInHanded {} Tryz.checked os 3 .any (λw args=>(Rows.flowNextSpec.pre enc Tryz.prog Tryz.f3 [] false w args∧laidMetH Tryz.prog pr w)∧sizedMet enc Tryz.prog Tryz.f3 (OpenSpec.ofChange Rows.flowNextSpec) false w args) (Rows.flowNextSpec.post enc Tryz.prog Tryz.f3 false true false false):=
 nY (C:=Tryz.checked) 2 (λw=>laidMetH Tryz.prog pr w) (λ_ _ hh h=>h.of_heap hh) Tryz.own started kR Tryz.func3
  (ChangeSpec.witness_shaped (enc:=enc) (C:=Tryz.checked) (os:=os) (X:=λw _=>laidMetH Tryz.prog pr w) false (World.doorLaid Tryz.prog 400 os) #[.agg #[.slice none 0 0, .slice none 0 0, .slice none 0 0, .slice none 0 0, .slice none 0 0, .slice none 0 0, .slice none 0 0, .int .i64 0, .slice none 0 0, .slice none 0 0, .slice none 0 0], .int .i64 0] 8 rfl (World.shaped_of_RefB kR kR) kR kR kR (vc os _)) rfl rfl rfl Tryz.underlying4
  (λds h=>by
   match ds,h with
   |[d0,d1],_=>rfl) oz kR (λW base args ds p hX hval hA _=>s8 W base args ds p (qL hX) hval hA)
theorem wA:Tryz.prog.inPlace 3=Rows.flowNextRow.inPlace:=by kernel_rfl
theorem wz:Tryz.prog.unfollowed 3=Rows.flowNextRow.unfollowed:=by kernel_rfl
theorem wy:Tryz.prog.recurses 3=Rows.flowNextRow.recurses:=by kernel_rfl
theorem wx:Tryz.prog.varsNamed 3=Rows.flowNextRow.named:=by kernel_rfl
theorem zf:joinedFacts Tryz.pinned.checked.prog 3 Tryz.f3 Rows.flowNextSpec Rows.flowNextRow=true:=by
 unfold joinedFacts
 rw[show Tryz.pinned.checked.prog.inPlace 3=_ from wA,show Tryz.pinned.checked.prog.unfollowed 3=_ from wz,show Tryz.pinned.checked.prog.recurses 3=_ from wy,show Tryz.pinned.checked.prog.varsNamed 3=_ from wx]
 kernel_rfl
theorem ui:Rows.FlowNextSaid:=
 OpenClaim.holds_of_wide 3 Tryz.f3 rfl rfl rfl rfl rfl rfl rfl ⟨rfl,rfl,rfl,rfl,rfl⟩ rfl rfl rfl rfl rfl kR Tryz.func3 zf
  (of_decide_eq_true kR) (by unfold Func.isWrapper;first|(rw[if_pos (by decide+kernel)];kernel_rfl)|(rw[if_neg (by decide+kernel)];exact⟨rfl,rfl⟩))
  (λos started H enc _=>ph os started H enc)
theorem next_holds:Rows.FlowNextCardSaid:=
 Claim7.holds_tied_plain_at .later [] [.listed, .data, .widerDeep] true (true, "f4eb2596aba4ed0eb65dc1274cf0154ce7d95865d77f933a5ecb709326519b1d") false
  ui (λ_ h=>by cases h) kR (λ_ h=>by cases h) flowNext_row_tie rfl ⟨rfl,rfl⟩ kR rfl
  (λf fn hf hfn=>by
   obtain rfl:f=3:=inS ((show Tryz.prog.funcNamed "ceiling/ceilinglaw25.FlowNext"=some 3 by kernel_rfl).symm.trans hf)|>.symm
   obtain rfl:fn=Tryz.f3:=(inS (Tryz.func3.symm.trans hfn)).symm
   exact⟨by kernel_rfl,λj t ht=>by
    rw[Tryz.params3] at ht
    have hm:t∈[33,3]:=by
     have:=Array.mem_of_getElem? ht
     simp only[List.mem_toArray,List.mem_cons,List.not_mem_nil,or_false] at this
     rcases this with rfl|rfl<;>simp
    have hall:([33,3].all λu=> !Tryz.prog.wantsStandIn u)=true:=by kernel_rfl
    exact(show Tryz.prog.wantsStandIn t=false by simpa using List.all_eq_true.1 hall t hm)⟩)
  kR
end Go.Proofs.YtpodhdopgcedlaaGreatDoor
