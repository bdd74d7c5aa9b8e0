/- FlowGraphs: for every flow graph and every block: the call returns true and leaves its arguments as they were. No condition but the card's own: the listed variables hold what the program's text lays. -/
import Derived.SevenTiedAt
import Derived.Test.YtpodhdopgcedlaaGreatDoorCards
import Derived.Test.YtpodhdopgcedlaaGreatDoorTie
import Derived.Test.YtpodhdopgcedlaaGreatDoorVgraphs
import Derived.Test.YtpodhdopgcedlaaGreatDoorR
set_option linter.unusedVariables false
set_option linter.unusedSimpArgs false
set_option linter.unusedSectionVars false
set_option linter.unnecessarySimpa false
set_option maxRecDepth 100000
namespace Go.Proofs.YtpodhdopgcedlaaGreatDoor
open Go Go.Sk
open Go.ChangeShapes Go.WideShapes Go.ChangeAt Go.RowKit
theorem nY{H:Type}{enc:TypeId×Value→H}(W:World)(base:Nat)(args:Array Value)(ds:List (DataW H))(p:List MemPlace)(hX:Gl (ar W) W)(hval:∀(j:Nat) t v,Tryz.f4.params[j]? =some t→args[j]? =some v→Value.okWide Tryz.prog W .any base t v)(hA:DataW.TrodAll enc Tryz.prog W 0 (λ_=>true) true Tryz.f4.params.toList args.toList ds p)(hz:(DataW.weightsEach Tryz.prog Tryz.f4.params.toList ds).all (·≤reachBytes)=true):Calls Tryz.prog 4 args W λe W'=>e= .returned (.bool true)∧Go.RowKit.Below W.heap.size W W':=by
 rw[Tryz.params4] at hA hval hz
 obtain⟨args⟩:=args
 simp only at hA
 obtain⟨v0,vs0,d0,ds0,p0,q0,rfl,rfl,t0,hA0⟩:=gJ hA
 obtain⟨v1,vs1,d1,ds1,p1,q1,rfl,rfl,t1,hA1⟩:=gJ hA0
 obtain rfl:=my hA1
 obtain⟨x0,r0,g0⟩:=pz (λfuel=>(rs36 fuel)) t0 (so hz (j:=0) rfl rfl)
 have a0:=sH r0 (rF Tryz.underlying36 (hval 0 36 v0 rfl rfl))
 obtain⟨x1,r1,g1⟩:=rB (λfuel=>(gz Tryz.underlying3 fuel)) t1
 have a1:=sH r1 (uB Tryz.underlying3 (hval 1 3 v1 rfl rfl))
 exact oI hX (f4_c x0 x1 (pH x0 x1 (xe g0))) (by exact(aw (by simpa[RA] using a0) (aw (by simpa[RA] using a1) bg)))
theorem lk(os:Os)(started:os.Started)(H:Type)(enc:TypeId×Value→H):
  ReturnsInHanded {} Tryz.checked os 4 .any (λw args=>(Rows.flowGraphsSpec.pre enc Tryz.prog Tryz.f4 [] false w args∧laidMetH Tryz.prog nV w)∧sizedMet enc Tryz.prog Tryz.f4 (OpenSpec.ofChange Rows.flowGraphsSpec) false w args) (Rows.flowGraphsSpec.post enc Tryz.prog Tryz.f4 false true false false):=
 mO (C:=Tryz.checked) 2 (λw=>laidMetH Tryz.prog nV w) (λ_ _ hh h=>h.of_heap hh) Tryz.own started kR Tryz.func4
  (ChangeSpec.witness_shaped (enc:=enc) (C:=Tryz.checked) (os:=os) (X:=λw _=>laidMetH Tryz.prog nV w) false (World.doorLaid Tryz.prog 400 os) #[.slice none 0 0, .int .i64 0] 8 rfl (World.shaped_of_RefB kR kR) kR kR kR (tH os _)) rfl rfl rfl Tryz.underlying4
  (λds h=>by
   match ds,h with
   |[d0,d1],_=>rfl) ng kR (λW base args ds p hX hval hA hz=>nY W base args ds p (pJ hX) hval hA hz)
theorem pI:Rows.FlowGraphsSaid:=
 OpenClaim.holds_of_wide 4 Tryz.f4 rfl rfl rfl rfl rfl rfl rfl ⟨rfl,rfl,rfl,rfl,rfl⟩ rfl rfl rfl rfl rfl kR Tryz.func4 kR
  (of_decide_eq_true kR) (by unfold Func.isWrapper;first|(rw[if_pos (by decide+kernel)];kernel_rfl)|(rw[if_neg (by decide+kernel)];exact⟨rfl,rfl⟩))
  (λos started H enc _=>lk os started H enc)
theorem graphs_holds:Rows.FlowGraphsCardSaid:=
 Claim7.holds_tied_plain_at .later [] [.listed, .data, .widerDeep] true (true, "f4eb2596aba4ed0eb65dc1274cf0154ce7d95865d77f933a5ecb709326519b1d") false
  pI (λ_ h=>by cases h) kR (λ_ h=>by cases h) flowGraphs_row_tie rfl ⟨rfl,rfl⟩ kR rfl
  (λf fn hf hfn=>by
   obtain rfl:f=4:=inS ((show Tryz.prog.funcNamed "ceiling/ceilinglaw25.FlowGraphs"=some 4 by kernel_rfl).symm.trans hf)|>.symm
   obtain rfl:fn=Tryz.f4:=(inS (Tryz.func4.symm.trans hfn)).symm
   exact⟨by kernel_rfl,λj t ht=>by
    rw[Tryz.params4] at ht
    have hm:t∈[36,3]:=by
     have:=Array.mem_of_getElem? ht
     simp only[List.mem_toArray,List.mem_cons,List.not_mem_nil,or_false] at this
     rcases this with rfl|rfl<;>simp
    have hall:([36,3].all λu=> !Tryz.prog.wantsStandIn u)=true:=by kernel_rfl
    exact(show Tryz.prog.wantsStandIn t=false by simpa using List.all_eq_true.1 hall t hm)⟩)
  kR
end Go.Proofs.YtpodhdopgcedlaaGreatDoor
