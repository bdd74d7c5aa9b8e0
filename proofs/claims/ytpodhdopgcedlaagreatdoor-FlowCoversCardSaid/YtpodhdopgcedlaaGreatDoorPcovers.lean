/- FlowCovers: for every text and every address: the call returns true and leaves its arguments as they were. No condition but the card's own: the listed variables hold what the program's text lays. -/
import Derived.SevenTiedAt
import Derived.Test.YtpodhdopgcedlaaGreatDoorCards
import Derived.Test.YtpodhdopgcedlaaGreatDoorTie
import Derived.Test.YtpodhdopgcedlaaGreatDoorVcovers
import Derived.Test.YtpodhdopgcedlaaGreatDoorR
set_option linter.unusedVariables false
set_option linter.unusedSimpArgs false
set_option linter.unusedSectionVars false
set_option linter.unnecessarySimpa false
set_option maxRecDepth 100000
namespace Go.Proofs.YtpodhdopgcedlaaGreatDoor
open Go Go.Sk
open Go.ChangeShapes Go.WideShapes Go.ChangeAt Go.RowKit
theorem pV{H:Type}{enc:TypeId×Value→H}(W:World)(base:Nat)(args:Array Value)(ds:List (DataW H))(p:List MemPlace)(hX:Gl (aU W) W)(hval:∀(j:Nat) t v,Tryz.f5.params[j]? =some t→args[j]? =some v→Value.okWide Tryz.prog W .any base t v)(hA:DataW.TrodAll enc Tryz.prog W 0 (λ_=>true) true Tryz.f5.params.toList args.toList ds p):Calls Tryz.prog 5 args W λe W'=>e= .returned (.bool true)∧Go.RowKit.Below W.heap.size W W':=by
 rw[Tryz.params5] at hA hval
 obtain⟨args⟩:=args
 simp only at hA
 obtain⟨v0,vs0,d0,ds0,p0,q0,rfl,rfl,t0,hA0⟩:=iE hA
 obtain⟨v1,vs1,d1,ds1,p1,q1,rfl,rfl,t1,hA1⟩:=iE hA0
 obtain rfl:=nQ hA1
 obtain⟨x0,r0,g0⟩:=nj (λfuel=>(rd33 fuel)) t0
 obtain⟨c0,rfl⟩:=rj Tryz.underlying33 (hval 0 33 v0 rfl rfl)
 have a0:=zi r0
 obtain⟨x1,r1,g1⟩:=nj (λfuel=>(ax Tryz.underlying3 fuel)) t1
 have a1:=zh r1 (wC Tryz.underlying3 (hval 1 3 v1 rfl rfl))
 exact qb hX (f5_c x0 x1 (qW x0 x1 g0.1 g0.2)) (by exact(aK (by simpa[RA] using a0) (aK (by simpa[RA] using a1) bB)))
theorem mX(os:Os)(started:os.Started)(H:Type)(enc:TypeId×Value→H):
  ReturnsInHanded {} Tryz.checked os 5 .any (λw args=>(Rows.flowCoversSpec.pre enc Tryz.prog Tryz.f5 [] false w args∧laidMetH Tryz.prog pF w)∧sizedMet enc Tryz.prog Tryz.f5 (OpenSpec.ofChange Rows.flowCoversSpec) false w args) (Rows.flowCoversSpec.post enc Tryz.prog Tryz.f5 false true false false):=
 oc (C:=Tryz.checked) 2 (λw=>laidMetH Tryz.prog pF w) (λ_ _ hh h=>h.of_heap hh) Tryz.own started kR Tryz.func5
  (ChangeSpec.witness_shaped (enc:=enc) (C:=Tryz.checked) (os:=os) (X:=λw _=>laidMetH Tryz.prog pF w) false (World.doorLaid Tryz.prog 400 os) #[.agg #[.slice none 0 0, .slice none 0 0, .slice none 0 0, .slice none 0 0, .slice none 0 0, .slice none 0 0, .slice none 0 0, .int .i64 0, .slice none 0 0, .slice none 0 0, .slice none 0 0], .int .i64 0] 8 rfl (World.shaped_of_RefB kR kR) kR kR kR (vx os _)) rfl rfl rfl Tryz.underlying4
  (λds h=>by
   match ds,h with
   |[d0,d1],_=>rfl) oJ kR (λW base args ds p hX hval hA _=>pV W base args ds p (qY hX) hval hA)
theorem tQ:Tryz.prog.inPlace 5=Rows.flowCoversRow.inPlace:=by kernel_rfl
theorem tP:Tryz.prog.unfollowed 5=Rows.flowCoversRow.unfollowed:=by kernel_rfl
theorem tO:Tryz.prog.recurses 5=Rows.flowCoversRow.recurses:=by kernel_rfl
theorem tN:Tryz.prog.varsNamed 5=Rows.flowCoversRow.named:=by kernel_rfl
theorem vI:joinedFacts Tryz.pinned.checked.prog 5 Tryz.f5 Rows.flowCoversSpec Rows.flowCoversRow=true:=by
 unfold joinedFacts
 rw[show Tryz.pinned.checked.prog.inPlace 5=_ from tQ,show Tryz.pinned.checked.prog.unfollowed 5=_ from tP,show Tryz.pinned.checked.prog.recurses 5=_ from tO,show Tryz.pinned.checked.prog.varsNamed 5=_ from tN]
 kernel_rfl
theorem rh:Rows.FlowCoversSaid:=
 OpenClaim.holds_of_wide 5 Tryz.f5 rfl rfl rfl rfl rfl rfl rfl ⟨rfl,rfl,rfl,rfl,rfl⟩ rfl rfl rfl rfl rfl kR Tryz.func5 vI
  (of_decide_eq_true kR) (by unfold Func.isWrapper;first|(rw[if_pos (by decide+kernel)];kernel_rfl)|(rw[if_neg (by decide+kernel)];exact⟨rfl,rfl⟩))
  (λos started H enc _=>mX os started H enc)
theorem covers_holds:Rows.FlowCoversCardSaid:=
 Claim7.holds_tied_plain_at .later [] [.listed, .data, .widerDeep] true (true, "f4eb2596aba4ed0eb65dc1274cf0154ce7d95865d77f933a5ecb709326519b1d") false
  rh (λ_ h=>by cases h) kR (λ_ h=>by cases h) flowCovers_row_tie rfl ⟨rfl,rfl⟩ kR rfl
  (λf fn hf hfn=>by
   obtain rfl:f=5:=inS ((show Tryz.prog.funcNamed "ceiling/ceilinglaw25.FlowCovers"=some 5 by kernel_rfl).symm.trans hf)|>.symm
   obtain rfl:fn=Tryz.f5:=(inS (Tryz.func5.symm.trans hfn)).symm
   exact⟨by kernel_rfl,λj t ht=>by
    rw[Tryz.params5] at ht
    have hm:t∈[33,3]:=by
     have:=Array.mem_of_getElem? ht
     simp only[List.mem_toArray,List.mem_cons,List.not_mem_nil,or_false] at this
     rcases this with rfl|rfl<;>simp
    have hall:([33,3].all λu=> !Tryz.prog.wantsStandIn u)=true:=by kernel_rfl
    exact(show Tryz.prog.wantsStandIn t=false by simpa using List.all_eq_true.1 hall t hm)⟩)
  kR
end Go.Proofs.YtpodhdopgcedlaaGreatDoor
