/- FlowDoms: for every flow graph and every number: the call returns true and leaves its arguments as they were. No condition but the card's own: the listed variables hold what the program's text lays. -/
import Derived.SevenTiedAt
import Derived.Test.YtpodhdopgcedlaaGreatDoorCards
import Derived.Test.YtpodhdopgcedlaaGreatDoorTie
import Derived.Test.YtpodhdopgcedlaaGreatDoorVdoms
import Derived.Test.YtpodhdopgcedlaaGreatDoorR
set_option linter.unusedVariables false
set_option linter.unusedSimpArgs false
set_option linter.unusedSectionVars false
set_option linter.unnecessarySimpa false
set_option maxRecDepth 100000
namespace Go.Proofs.YtpodhdopgcedlaaGreatDoor
open Go Go.Sk
open Go.ChangeShapes Go.WideShapes Go.ChangeAt Go.RowKit
theorem rU{H:Type}{enc:TypeId×Value→H}(W:World)(base:Nat)(args:Array Value)(ds:List (DataW H))(p:List MemPlace)(hX:Gl (aw W) W)(hval:∀(j:Nat) t v,Tryz.f6.params[j]? =some t→args[j]? =some v→Value.okWide Tryz.prog W .any base t v)(hA:DataW.TrodAll enc Tryz.prog W 0 (λ_=>true) true Tryz.f6.params.toList args.toList ds p)(hz:(DataW.weightsEach Tryz.prog Tryz.f6.params.toList ds).all (·≤reachBytes)=true):Calls Tryz.prog 6 args W λe W'=>e= .returned (.bool true)∧Go.RowKit.Below W.heap.size W W':=by
 rw[Tryz.params6] at hA hval hz
 obtain⟨args⟩:=args
 simp only at hA
 obtain⟨v0,vs0,d0,ds0,p0,q0,rfl,rfl,t0,hA0⟩:=gJ hA
 obtain⟨v1,vs1,d1,ds1,p1,q1,rfl,rfl,t1,hA1⟩:=gJ hA0
 obtain rfl:=mB hA1
 obtain⟨x0,r0,g0⟩:=pF (λfuel=>(rs36 fuel)) t0 (sC hz (j:=0) rfl rfl)
 have a0:=sQ r0 (rI Tryz.underlying36 (hval 0 36 v0 rfl rfl))
 obtain⟨x1,r1,g1⟩:=rF (λfuel=>(gz Tryz.underlying3 fuel)) t1
 have a1:=sQ r1 (uN Tryz.underlying3 (hval 1 3 v1 rfl rfl))
 exact oR hX (f6_c x0 x1 (tj x0 x1 (xt g0))) (by exact(aA (by simpa[RA] using a0) (aA (by simpa[RA] using a1) be)))
theorem oG(os:Os)(started:os.Started)(H:Type)(enc:TypeId×Value→H):
  ReturnsInHanded {} Tryz.checked os 6 .any (λw args=>(Rows.flowDomsSpec.pre enc Tryz.prog Tryz.f6 [] false w args∧laidMetH Tryz.prog n8 w)∧sizedMet enc Tryz.prog Tryz.f6 (OpenSpec.ofChange Rows.flowDomsSpec) false w args) (Rows.flowDomsSpec.post enc Tryz.prog Tryz.f6 false true false false):=
 mU (C:=Tryz.checked) 2 (λw=>laidMetH Tryz.prog n8 w) (λ_ _ hh h=>h.of_heap hh) Tryz.own started kR Tryz.func6
  (ChangeSpec.witness_shaped (enc:=enc) (C:=Tryz.checked) (os:=os) (X:=λw _=>laidMetH Tryz.prog n8 w) false (World.doorLaid Tryz.prog 400 os) #[.slice none 0 0, .int .i64 0] 8 rfl (World.shaped_of_RefB kR kR) kR kR kR (tQ os _)) rfl rfl rfl Tryz.underlying4
  (λds h=>by
   match ds,h with
   |[d0,d1],_=>rfl) nm kR (λW base args ds p hX hval hA hz=>rU W base args ds p (pN hX) hval hA hz)
theorem tR:Rows.FlowDomsSaid:=
 OpenClaim.holds_of_wide 6 Tryz.f6 rfl rfl rfl rfl rfl rfl rfl ⟨rfl,rfl,rfl,rfl,rfl⟩ rfl rfl rfl rfl rfl kR Tryz.func6 kR
  (of_decide_eq_true kR) (by unfold Func.isWrapper;first|(rw[if_pos (by decide+kernel)];kernel_rfl)|(rw[if_neg (by decide+kernel)];exact⟨rfl,rfl⟩))
  (λos started H enc _=>oG os started H enc)
theorem doms_holds:Rows.FlowDomsCardSaid:=
 Claim7.holds_tied_plain_at .later [] [.listed, .data, .widerDeep] true (true, "f4eb2596aba4ed0eb65dc1274cf0154ce7d95865d77f933a5ecb709326519b1d") false
  tR (λ_ h=>by cases h) kR (λ_ h=>by cases h) flowDoms_row_tie rfl ⟨rfl,rfl⟩ kR rfl
  (λf fn hf hfn=>by
   obtain rfl:f=6:=inS ((show Tryz.prog.funcNamed "ceiling/ceilinglaw25.FlowDoms"=some 6 by kernel_rfl).symm.trans hf)|>.symm
   obtain rfl:fn=Tryz.f6:=(inS (Tryz.func6.symm.trans hfn)).symm
   exact⟨by kernel_rfl,λj t ht=>by
    rw[Tryz.params6] at ht
    have hm:t∈[36,3]:=by
     have:=Array.mem_of_getElem? ht
     simp only[List.mem_toArray,List.mem_cons,List.not_mem_nil,or_false] at this
     rcases this with rfl|rfl<;>simp
    have hall:([36,3].all λu=> !Tryz.prog.wantsStandIn u)=true:=by kernel_rfl
    exact(show Tryz.prog.wantsStandIn t=false by simpa using List.all_eq_true.1 hall t hm)⟩)
  kR
end Go.Proofs.YtpodhdopgcedlaaGreatDoor
