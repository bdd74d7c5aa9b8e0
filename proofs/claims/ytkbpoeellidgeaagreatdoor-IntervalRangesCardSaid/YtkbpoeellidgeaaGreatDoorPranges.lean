/- IntervalRanges: for every text: the call returns true and leaves its arguments as they were. No condition but the card's own: the listed variables hold what the program's text lays. -/
import Derived.SevenTiedAt
import Derived.Test.YtkbpoeellidgeaaGreatDoorCards
import Derived.Test.YtkbpoeellidgeaaGreatDoorTie
import Derived.Test.YtkbpoeellidgeaaGreatDoorVranges
import Derived.Test.YtkbpoeellidgeaaGreatDoorR
set_option linter.unusedVariables false
set_option linter.unusedSimpArgs false
set_option linter.unusedSectionVars false
set_option linter.unnecessarySimpa false
set_option maxRecDepth 100000
namespace Go.Proofs.YtkbpoeellidgeaaGreatDoor
open Go Go.Sk
open Go.ChangeShapes Go.WideShapes Go.ChangeAt Go.RowKit
theorem oz{H:Type}{enc:TypeId×Value→H}(W:World)(base:Nat)(args:Array Value)(ds:List (DataW H))(p:List MemPlace)(hX:Gl (bj W) W)(hval:∀(j:Nat) t v,Tryz.f3.params[j]? =some t→args[j]? =some v→Value.okWide Tryz.prog W .any base t v)(hA:DataW.TrodAll enc Tryz.prog W 0 (λ_=>true) true Tryz.f3.params.toList args.toList ds p):Calls Tryz.prog 3 args W λe W'=>e= .returned (.bool true)∧Go.RowKit.Below W.heap.size W W':=by
 rw[Tryz.params3] at hA hval
 obtain⟨args⟩:=args
 simp only at hA
 obtain⟨v0,vs0,d0,ds0,p0,q0,rfl,rfl,t0,hA0⟩:=lY hA
 obtain rfl:=mY hA0
 obtain⟨x0,r0,g0⟩:=rM (λfuel=>(rd33 fuel)) t0
 obtain⟨c0,rfl⟩:=ql Tryz.underlying33 (hval 0 33 v0 rfl rfl)
 have a0:=vT r0
 exact pb hX (f3_c x0 (f3_law x0 g0.sz g0.sa g0.ob g0.nn)) (by exact(aQ (by simpa[RA] using a0) bV))
theorem l7(os:Os)(started:os.Started)(H:Type)(enc:TypeId×Value→H):
  ReturnsInHanded {} Tryz.checked os 3 .any (λw args=>(Rows.intervalRangesSpec.pre enc Tryz.prog Tryz.f3 [] false w args∧laidMetH Tryz.prog oO w)∧sizedMet enc Tryz.prog Tryz.f3 (OpenSpec.ofChange Rows.intervalRangesSpec) false w args) (Rows.intervalRangesSpec.post enc Tryz.prog Tryz.f3 false true false false):=
 np (C:=Tryz.checked) 1 (λw=>laidMetH Tryz.prog oO w) (λ_ _ hh h=>h.of_heap hh) Tryz.own started kR Tryz.func3
  (ChangeSpec.witness_shaped (enc:=enc) (C:=Tryz.checked) (os:=os) (X:=λw _=>laidMetH Tryz.prog oO w) false (World.doorLaid Tryz.prog 400 os) #[.agg #[.slice none 0 0, .slice none 0 0, .slice none 0 0, .slice none 0 0, .slice none 0 0, .slice none 0 0, .slice none 0 0, .int .i64 0, .slice none 0 0, .slice none 0 0, .slice none 0 0]] 8 rfl (World.shaped_of_RefB kR kR) kR kR kR (tN os _)) rfl rfl rfl Tryz.underlying4
  (λds h=>by
   match ds,h with
   |[d0],_=>rfl) nD kR (λW base args ds p hX hval hA _=>oz W base args ds p (qe hX) hval hA)
theorem rQ:Tryz.prog.inPlace 3=Rows.intervalRangesRow.inPlace:=by kernel_rfl
theorem rP:Tryz.prog.unfollowed 3=Rows.intervalRangesRow.unfollowed:=by kernel_rfl
theorem rO:Tryz.prog.recurses 3=Rows.intervalRangesRow.recurses:=by kernel_rfl
theorem rN:Tryz.prog.varsNamed 3=Rows.intervalRangesRow.named:=by kernel_rfl
theorem s5:joinedFacts Tryz.pinned.checked.prog 3 Tryz.f3 Rows.intervalRangesSpec Rows.intervalRangesRow=true:=by
 unfold joinedFacts
 rw[show Tryz.pinned.checked.prog.inPlace 3=_ from rQ,show Tryz.pinned.checked.prog.unfollowed 3=_ from rP,show Tryz.pinned.checked.prog.recurses 3=_ from rO,show Tryz.pinned.checked.prog.varsNamed 3=_ from rN]
 kernel_rfl
theorem pY:Rows.IntervalRangesSaid:=
 OpenClaim.holds_of_wide 3 Tryz.f3 rfl rfl rfl rfl rfl rfl rfl ⟨rfl,rfl,rfl,rfl,rfl⟩ rfl rfl rfl rfl rfl kR Tryz.func3 s5
  (of_decide_eq_true kR) (by unfold Func.isWrapper;first|(rw[if_pos (by decide+kernel)];kernel_rfl)|(rw[if_neg (by decide+kernel)];exact⟨rfl,rfl⟩))
  (λos started H enc _=>l7 os started H enc)
theorem ranges_holds:Rows.IntervalRangesCardSaid:=
 Claim7.holds_tied_plain_at .later [] [.listed, .data, .widerDeep] true (true, "341ea67fbc5dc2c76e7618aed8349e0350e9913d9ea94748225be012b1ef0812") false
  pY (λ_ h=>by cases h) kR (λ_ h=>by cases h) intervalRanges_row_tie rfl ⟨rfl,rfl⟩ kR rfl
  (λf fn hf hfn=>by
   obtain rfl:f=3:=inS ((show Tryz.prog.funcNamed "ceiling/ceilinglaw26.IntervalRanges"=some 3 by kernel_rfl).symm.trans hf)|>.symm
   obtain rfl:fn=Tryz.f3:=(inS (Tryz.func3.symm.trans hfn)).symm
   exact⟨by kernel_rfl,λj t ht=>by
    rw[Tryz.params3] at ht
    have hm:t∈[33]:=by
     have:=Array.mem_of_getElem? ht
     simp only[List.mem_toArray,List.mem_cons,List.not_mem_nil,or_false] at this
     rcases this with rfl<;>simp
    have hall:([33].all λu=> !Tryz.prog.wantsStandIn u)=true:=by kernel_rfl
    exact(show Tryz.prog.wantsStandIn t=false by simpa using List.all_eq_true.1 hall t hm)⟩)
  kR
end Go.Proofs.YtkbpoeellidgeaaGreatDoor
