/- FlowNested: for every list of steps: the call returns true and leaves its arguments as they were. No condition but the card's own: the listed variables hold what the program's text lays. -/
import Derived.SevenTiedAt
import Derived.Test.YtpodhdopgcedlaaGreatDoorCards
import Derived.Test.YtpodhdopgcedlaaGreatDoorTie
import Derived.Test.YtpodhdopgcedlaaGreatDoorVnested
import Derived.Test.YtpodhdopgcedlaaGreatDoorR
set_option linter.unusedVariables false
set_option linter.unusedSimpArgs false
set_option linter.unusedSectionVars false
set_option linter.unnecessarySimpa false
set_option maxRecDepth 100000
namespace Go.Proofs.YtpodhdopgcedlaaGreatDoor
open Go Go.Sk
open Go.ChangeShapes Go.WideShapes Go.ChangeAt Go.RowKit
theorem nw{H:Type}{enc:TypeId×Value→H}(W:World)(base:Nat)(args:Array Value)(ds:List (DataW H))(p:List MemPlace)(hX:Gl (aB W) W)(hval:∀(j:Nat) t v,Tryz.f7.params[j]? =some t→args[j]? =some v→Value.okWide Tryz.prog W .any base t v)(hA:DataW.TrodAll enc Tryz.prog W 0 (λ_=>true) true Tryz.f7.params.toList args.toList ds p):Calls Tryz.prog 7 args W λe W'=>e= .returned (.bool true)∧Go.RowKit.Below W.heap.size W W':=by
 rw[Tryz.params7] at hA hval
 obtain⟨args⟩:=args
 simp only at hA
 obtain⟨v0,vs0,d0,ds0,p0,q0,rfl,rfl,t0,hA0⟩:=kQ hA
 obtain rfl:=l8 hA0
 obtain⟨x0,r0,g0⟩:=qT (λfuel=>(mi Tryz.underlying59 cs5 dC el5 λf hf=>rd5 f)) t0
 have a0:=wd r0 (qX Tryz.underlying59 (hval 0 59 v0 rfl rfl))
 exact n6 hX (f7_c x0 (o6 x0)) (by exact(ax (by simpa[RA] using a0) aZ))
theorem kY(os:Os)(started:os.Started)(H:Type)(enc:TypeId×Value→H):
  ReturnsInHanded {} Tryz.checked os 7 .any (λw args=>(Rows.flowNestedSpec.pre enc Tryz.prog Tryz.f7 [] false w args∧laidMetH Tryz.prog nE w)∧sizedMet enc Tryz.prog Tryz.f7 (OpenSpec.ofChange Rows.flowNestedSpec) false w args) (Rows.flowNestedSpec.post enc Tryz.prog Tryz.f7 false true false false):=
 mw (C:=Tryz.checked) 1 (λw=>laidMetH Tryz.prog nE w) (λ_ _ hh h=>h.of_heap hh) Tryz.own started kR Tryz.func7
  (ChangeSpec.witness_shaped (enc:=enc) (C:=Tryz.checked) (os:=os) (X:=λw _=>laidMetH Tryz.prog nE w) false (World.doorLaid Tryz.prog 400 os) #[.slice none 0 0] 8 rfl (World.shaped_of_RefB kR kR) kR kR kR (sZ os _)) rfl rfl rfl Tryz.underlying4
  (λds h=>by
   match ds,h with
   |[d0],_=>rfl) mM kR (λW base args ds p hX hval hA _=>nw W base args ds p (o7 hX) hval hA)
theorem oY:Rows.FlowNestedSaid:=
 OpenClaim.holds_of_wide 7 Tryz.f7 rfl rfl rfl rfl rfl rfl rfl ⟨rfl,rfl,rfl,rfl,rfl⟩ rfl rfl rfl rfl rfl kR Tryz.func7 kR
  (of_decide_eq_true kR) (by unfold Func.isWrapper;first|(rw[if_pos (by decide+kernel)];kernel_rfl)|(rw[if_neg (by decide+kernel)];exact⟨rfl,rfl⟩))
  (λos started H enc _=>kY os started H enc)
theorem nested_holds:Rows.FlowNestedCardSaid:=
 Claim7.holds_tied_plain_at .later [] [.listed, .data, .widerDeep] true (true, "f4eb2596aba4ed0eb65dc1274cf0154ce7d95865d77f933a5ecb709326519b1d") false
  oY (λ_ h=>by cases h) kR (λ_ h=>by cases h) flowNested_row_tie rfl ⟨rfl,rfl⟩ kR rfl
  (λf fn hf hfn=>by
   obtain rfl:f=7:=inS ((show Tryz.prog.funcNamed "ceiling/ceilinglaw25.FlowNested"=some 7 by kernel_rfl).symm.trans hf)|>.symm
   obtain rfl:fn=Tryz.f7:=(inS (Tryz.func7.symm.trans hfn)).symm
   exact⟨by kernel_rfl,λj t ht=>by
    rw[Tryz.params7] at ht
    have hm:t∈[59]:=by
     have:=Array.mem_of_getElem? ht
     simp only[List.mem_toArray,List.mem_cons,List.not_mem_nil,or_false] at this
     rcases this with rfl<;>simp
    have hall:([59].all λu=> !Tryz.prog.wantsStandIn u)=true:=by kernel_rfl
    exact(show Tryz.prog.wantsStandIn t=false by simpa using List.all_eq_true.1 hall t hm)⟩)
  kR
end Go.Proofs.YtpodhdopgcedlaaGreatDoor
