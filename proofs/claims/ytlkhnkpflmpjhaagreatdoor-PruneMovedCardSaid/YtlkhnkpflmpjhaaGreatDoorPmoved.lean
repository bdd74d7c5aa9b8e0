/- TruneMoved: for every list of addresses and every address: the call returns true and leaves its arguments as they were. No condition but the card's own: the listed variables hold what the program's text lays. -/
import Derived.SevenTiedAt
import Derived.Test.YtlkhnkpflmpjhaaGreatDoorCards
import Derived.Test.YtlkhnkpflmpjhaaGreatDoorTie
import Derived.Test.YtlkhnkpflmpjhaaGreatDoorVmoved
import Derived.Test.YtlkhnkpflmpjhaaGreatDoorR
set_option linter.unusedVariables false
set_option linter.unusedSimpArgs false
set_option linter.unusedSectionVars false
set_option linter.unnecessarySimpa false
set_option maxRecDepth 100000
namespace Go.Proofs.YtlkhnkpflmpjhaaGreatDoor
open Go Go.Sk
open Go.ChangeShapes Go.WideShapes Go.ChangeAt Go.RowKit
theorem ld{H:Type}{enc:TypeId×Value→H}(W:World)(base:Nat)(args:Array Value)(ds:List (DataW H))(p:List MemPlace)(hX:Gl (an W) W)(hval:∀(j:Nat) t v,Tryz.f3.params[j]? =some t→args[j]? =some v→Value.okWide Tryz.prog W .any base t v)(hA:DataW.TrodAll enc Tryz.prog W 0 (λ_=>true) true Tryz.f3.params.toList args.toList ds p):Calls Tryz.prog 3 args W λe W'=>e= .returned (.bool true)∧Go.RowKit.Below W.heap.size W W':=by
 rw[Tryz.params3] at hA hval
 obtain⟨args⟩:=args
 simp only at hA
 obtain⟨v0,vs0,d0,ds0,p0,q0,rfl,rfl,t0,hA0⟩:=d6 hA
 obtain⟨v1,vs1,d1,ds1,p1,q1,rfl,rfl,t1,hA1⟩:=d6 hA0
 obtain rfl:=iY hA1
 obtain⟨x0,r0,g0⟩:=iu (λfuel=>(jc Tryz.underlying22 cs3 dC el3 λf hf=>rd3 f)) t0
 have a0:=nR r0 (m2 Tryz.underlying22 (hval 0 22 v0 rfl rfl))
 obtain⟨x1,r1,g1⟩:=iu (λfuel=>(is Tryz.underlying3 fuel)) t1
 have a1:=nR r1 (pr Tryz.underlying3 (hval 1 3 v1 rfl rfl))
 exact kC hX (f3_c x0 x1 (m8 x0 x1)) (by exact(aw (by simpa[RA] using a0) (aw (by simpa[RA] using a1) aL)))
theorem jg(os:Os)(started:os.Started)(H:Type)(enc:TypeId×Value→H):
  ReturnsInHanded {} Tryz.checked os 3 .any (λw args=>(Rows.pruneMovedSpec.pre enc Tryz.prog Tryz.f3 [] false w args∧laidMetH Tryz.prog kd w)∧sizedMet enc Tryz.prog Tryz.f3 (OpenSpec.ofChange Rows.pruneMovedSpec) false w args) (Rows.pruneMovedSpec.post enc Tryz.prog Tryz.f3 false true false false):=
 ji (C:=Tryz.checked) 2 (λw=>laidMetH Tryz.prog kd w) (λ_ _ hh h=>h.of_heap hh) Tryz.own started kR Tryz.func3
  (ChangeSpec.witness_shaped (enc:=enc) (C:=Tryz.checked) (os:=os) (X:=λw _=>laidMetH Tryz.prog kd w) false (World.doorLaid Tryz.prog 400 os) #[.slice none 0 0, .int .i64 0] 8 rfl (World.shaped_of_RefB kR kR) kR kR kR (oH os _)) rfl rfl rfl Tryz.underlying4
  (λds h=>by
   match ds,h with
   |[d0,d1],_=>rfl) jz kR (λW base args ds p hX hval hA _=>ld W base args ds p (lj hX) hval hA)
theorem m7:Rows.PruneMovedSaid:=
 OpenClaim.holds_of_wide 3 Tryz.f3 rfl rfl rfl rfl rfl rfl rfl ⟨rfl,rfl,rfl,rfl,rfl⟩ rfl rfl rfl rfl rfl kR Tryz.func3 kR
  (of_decide_eq_true kR) (by unfold Func.isWrapper;first|(rw[if_pos (by decide+kernel)];kernel_rfl)|(rw[if_neg (by decide+kernel)];exact⟨rfl,rfl⟩))
  (λos started H enc _=>jg os started H enc)
theorem moved_holds:Rows.PruneMovedCardSaid:=
 Claim7.holds_tied_plain_at .later [] [.listed, .data, .widerDeep] true (true, "7a6b42d6e885db3699120fec0cccbaf9276761bb48570981258e40085d4f1b69") false
  m7 (λ_ h=>by cases h) kR (λ_ h=>by cases h) pruneMoved_row_tie rfl ⟨rfl,rfl⟩ kR rfl
  (λf fn hf hfn=>by
   obtain rfl:f=3:=inS ((show Tryz.prog.funcNamed "ceiling/ceilinglaw27.PruneMoved"=some 3 by kernel_rfl).symm.trans hf)|>.symm
   obtain rfl:fn=Tryz.f3:=(inS (Tryz.func3.symm.trans hfn)).symm
   exact⟨by kernel_rfl,λj t ht=>by
    rw[Tryz.params3] at ht
    have hm:t∈[22,3]:=by
     have:=Array.mem_of_getElem? ht
     simp only[List.mem_toArray,List.mem_cons,List.not_mem_nil,or_false] at this
     rcases this with rfl|rfl<;>simp
    have hall:([22,3].all λu=> !Tryz.prog.wantsStandIn u)=true:=by kernel_rfl
    exact(show Tryz.prog.wantsStandIn t=false by simpa using List.all_eq_true.1 hall t hm)⟩)
  kR
end Go.Proofs.YtlkhnkpflmpjhaaGreatDoor
