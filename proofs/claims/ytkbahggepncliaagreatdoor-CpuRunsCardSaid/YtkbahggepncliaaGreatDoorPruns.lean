/- CpuRuns: for every text, input, address and number of steps: the call returns true and leaves its arguments as they were. No condition but the card's own: the listed variables hold what the program's text lays. -/
import Derived.SevenTiedAt
import Derived.Test.YtkbahggepncliaaGreatDoorCards
import Derived.Test.YtkbahggepncliaaGreatDoorTie
import Derived.Test.YtkbahggepncliaaGreatDoorWc
import Derived.Test.YtkbahggepncliaaGreatDoorR
set_option linter.unusedVariables false
set_option linter.unusedSimpArgs false
set_option linter.unusedSectionVars false
set_option linter.unnecessarySimpa false
set_option maxRecDepth 100000
namespace Go.Proofs.YtkbahggepncliaaGreatDoor
open Go Go.Sk
open Go.ChangeShapes Go.WideShapes Go.ChangeAt Go.RowKit
theorem qV{H:Type}{enc:TypeId×Value→H}(W:World)(base:Nat)(args:Array Value)(ds:List (DataW H))(p:List MemPlace)(hX:Gl (bC W) W)(hval:∀(j:Nat) t v,Tryz.f5.params[j]? =some t→args[j]? =some v→Value.okWide Tryz.prog W .any base t v)(hA:DataW.TrodAll enc Tryz.prog W 0 (λ_=>true) true Tryz.f5.params.toList args.toList ds p):Calls Tryz.prog 5 args W λe W'=>e= .returned (.bool true)∧Go.RowKit.Below W.heap.size W W':=by
 rw[Tryz.params5] at hA hval
 obtain⟨args⟩:=args
 simp only at hA
 obtain⟨v0,vs0,d0,ds0,p0,q0,rfl,rfl,t0,hA0⟩:=eG hA
 obtain⟨v1,vs1,d1,ds1,p1,q1,rfl,rfl,t1,hA1⟩:=eG hA0
 obtain⟨v2,vs2,d2,ds2,p2,q2,rfl,rfl,t2,hA2⟩:=eG hA1
 obtain⟨v3,vs3,d3,ds3,p3,q3,rfl,rfl,t3,hA3⟩:=eG hA2
 obtain rfl:=mZ hA3
 obtain⟨x0,r0,g0⟩:=hZ (λfuel=>(rd38 fuel)) t0
 obtain⟨c0,rfl⟩:=pQ Tryz.underlying38 (hval 0 38 v0 rfl rfl)
 have a0:=vq r0
 obtain⟨x1,r1,g1⟩:=hZ (λfuel=>(a9 Tryz.underlying42 cs2 dC el2 (λf hf=>rd2 f))) t1
 have a1:=pw r1 (qX Tryz.underlying42 (hval 1 42 v1 rfl rfl))
 obtain⟨x2,r2,g2⟩:=hZ (λfuel=>(aA Tryz.underlying3 fuel)) t2
 have a2:=pw r2 (qg Tryz.underlying3 (hval 2 3 v2 rfl rfl))
 obtain⟨x3,r3,g3⟩:=hZ (λfuel=>(aA Tryz.underlying54 fuel)) t3
 have a3:=pw r3 (qg Tryz.underlying54 (hval 3 54 v3 rfl rfl))
 exact oI hX (f5_c x0 x1 x2 x3 (sJ x0 x1 x2 x3 g0.1 g0.2 g0.3 (λv hv=>q7 (g1.1 v hv)) (by have h:(0:Int)≤x3:=g3.1;omega))) (by exact(aU (by simpa[RA] using a0) (aU (by simpa[RA] using a1) (aU (by simpa[RA] using a2) (aU (by simpa[RA] using a3) cB)))))
theorem nY(os:Os)(started:os.Started)(H:Type)(enc:TypeId×Value→H):
  ReturnsInHanded {} Tryz.checked os 5 .any (λw args=>(Rows.cpuRunsSpec.pre enc Tryz.prog Tryz.f5 [] false w args∧laidMetH Tryz.prog ou w)∧sizedMet enc Tryz.prog Tryz.f5 (OpenSpec.ofChange Rows.cpuRunsSpec) false w args) (Rows.cpuRunsSpec.post enc Tryz.prog Tryz.f5 false true false false):=
 ni (C:=Tryz.checked) 4 (λw=>laidMetH Tryz.prog ou w) (λ_ _ hh h=>h.of_heap hh) Tryz.own started kR Tryz.func5
  (ChangeSpec.witness_shaped (enc:=enc) (C:=Tryz.checked) (os:=os) (X:=λw _=>laidMetH Tryz.prog ou w) false (World.doorLaid Tryz.prog 400 os) #[.agg #[.slice none 0 0, .slice none 0 0, .slice none 0 0, .slice none 0 0, .slice none 0 0, .slice none 0 0, .slice none 0 0, .int .i64 0, .slice none 0 0, .slice none 0 0, .slice none 0 0], .slice none 0 0, .int .i64 0, .int .u16 0] 8 rfl (World.shaped_of_RefB kR kR) kR kR kR (s7 os _)) rfl rfl rfl Tryz.underlying4
  (λds h=>by
   match ds,h with
   |[d0,d1,d2,d3],_=>rfl) nu kR (λW base args ds p hX hval hA _=>qV W base args ds p (pI hX) hval hA)
theorem sw:Rows.CpuRunsSaid:=
 OpenClaim.holds_of_wide 5 Tryz.f5 rfl rfl rfl rfl rfl rfl rfl ⟨rfl,rfl,rfl,rfl,rfl⟩ rfl rfl rfl rfl rfl kR Tryz.func5 kR
  (of_decide_eq_true kR) (by unfold Func.isWrapper;first|(rw[if_pos (by decide+kernel)];kernel_rfl)|(rw[if_neg (by decide+kernel)];exact⟨rfl,rfl⟩))
  (λos started H enc _=>nY os started H enc)
theorem runs_holds:Rows.CpuRunsCardSaid:=
 Claim7.holds_tied_plain_at .later [] [.listed, .data, .widerDeep] true (true, "23d74111835e41e2a2a2670fca69a44dc62c335d2117a5dc05f6498d2428bb8b") true
  sw (λ_ h=>by cases h) kR (λ_ h=>by cases h) cpuRuns_row_tie rfl ⟨rfl,rfl⟩ kR rfl
  (λf fn hf hfn=>by
   obtain rfl:f=5:=inS ((show Tryz.prog.funcNamed "ceiling/ceilinglaw28.CpuRuns"=some 5 by kernel_rfl).symm.trans hf)|>.symm
   obtain rfl:fn=Tryz.f5:=(inS (Tryz.func5.symm.trans hfn)).symm
   exact⟨by kernel_rfl,λj t ht=>by
    rw[Tryz.params5] at ht
    have hm:t∈[38,42,3,54]:=by
     have:=Array.mem_of_getElem? ht
     simp only[List.mem_toArray,List.mem_cons,List.not_mem_nil,or_false] at this
     rcases this with rfl|rfl|rfl|rfl<;>simp
    have hall:([38,42,3,54].all λu=> !Tryz.prog.wantsStandIn u)=true:=by kernel_rfl
    exact(show Tryz.prog.wantsStandIn t=false by simpa using List.all_eq_true.1 hall t hm)⟩)
  kR
end Go.Proofs.YtkbahggepncliaaGreatDoor
