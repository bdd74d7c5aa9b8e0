/- CpuWays: for every text, input, registers and number of steps: the call returns true and leaves its arguments as they were. No condition but the card's own: the listed variables hold what the program's text lays. -/
import Derived.SevenTiedAt
import Derived.Test.YtkbahggepncliaaGreatDoorCards
import Derived.Test.YtkbahggepncliaaGreatDoorTie
import Derived.Test.YtkbahggepncliaaGreatDoorWb
import Derived.Test.YtkbahggepncliaaGreatDoorR
set_option linter.unusedVariables false
set_option linter.unusedSimpArgs false
set_option linter.unusedSectionVars false
set_option linter.unnecessarySimpa false
set_option maxRecDepth 100000
namespace Go.Proofs.YtkbahggepncliaaGreatDoor
open Go Go.Sk
open Go.ChangeShapes Go.WideShapes Go.ChangeAt Go.RowKit
theorem pU{H:Type}{enc:TypeId×Value→H}(W:World)(base:Nat)(args:Array Value)(ds:List (DataW H))(p:List MemPlace)(hX:Gl (aZ W) W)(hval:∀(j:Nat) t v,Tryz.f8.params[j]? =some t→args[j]? =some v→Value.okWide Tryz.prog W .any base t v)(hA:DataW.TrodAll enc Tryz.prog W 0 (λ_=>true) true Tryz.f8.params.toList args.toList ds p):Calls Tryz.prog 8 args W λe W'=>e= .returned (.bool true)∧Go.RowKit.Below W.heap.size W W':=by
 rw[Tryz.params8] at hA hval
 obtain⟨args⟩:=args
 simp only at hA
 obtain⟨v0,vs0,d0,ds0,p0,q0,rfl,rfl,t0,hA0⟩:=dL hA
 obtain⟨v1,vs1,d1,ds1,p1,q1,rfl,rfl,t1,hA1⟩:=dL hA0
 obtain⟨v2,vs2,d2,ds2,p2,q2,rfl,rfl,t2,hA2⟩:=dL hA1
 obtain⟨v3,vs3,d3,ds3,p3,q3,rfl,rfl,t3,hA3⟩:=dL hA2
 obtain rfl:=lB hA3
 obtain⟨x0,r0,g0⟩:=gp (λfuel=>(rd38 fuel)) t0
 obtain⟨c0,rfl⟩:=ko Tryz.underlying38 (hval 0 38 v0 rfl rfl)
 have a0:=qX r0
 obtain⟨x1,r1,g1⟩:=gp (λfuel=>(aI Tryz.underlying42 cs2 dC el2 λf hf=>rd2 f)) t1
 have a1:=qW r1 (p8 Tryz.underlying42 (hval 1 42 v1 rfl rfl))
 obtain⟨x2,r2,g2⟩:=gp (λfuel=>(rd41 fuel)) t2
 obtain⟨c2,rfl⟩:=ko Tryz.underlying41 (hval 2 41 v2 rfl rfl)
 have a2:=qX r2
 obtain⟨x3,r3,g3⟩:=gp (λfuel=>(ai Tryz.underlying5 fuel)) t3
 have a3:=qW r3 (sx Tryz.underlying5 (hval 3 5 v3 rfl rfl))
 exact nL hX (f8_c x0 x1 x2 x3 (rh x0 x1 x2 x3 g0.1 g0.3 (λv hv=>oI (g1.1 v hv)) g2 g3.1)) (by exact(aK (by simpa[RA] using a0) (aK (by simpa[RA] using a1) (aK (by simpa[RA] using a2) (aK (by simpa[RA] using a3) bZ)))))
theorem mJ(os:Os)(started:os.Started)(H:Type)(enc:TypeId×Value→H):
  ReturnsInHanded {} Tryz.checked os 8 .any (λw args=>(Rows.cpuWaysSpec.pre enc Tryz.prog Tryz.f8 [] false w args∧laidMetH Tryz.prog nt w)∧sizedMet enc Tryz.prog Tryz.f8 (OpenSpec.ofChange Rows.cpuWaysSpec) false w args) (Rows.cpuWaysSpec.post enc Tryz.prog Tryz.f8 false true false false):=
 mc (C:=Tryz.checked) 4 (λw=>laidMetH Tryz.prog nt w) (λ_ _ hh h=>h.of_heap hh) Tryz.own started kR Tryz.func8
  (ChangeSpec.witness_shaped (enc:=enc) (C:=Tryz.checked) (os:=os) (X:=λw _=>laidMetH Tryz.prog nt w) false (World.doorLaid Tryz.prog 400 os) #[.agg #[.slice none 0 0, .slice none 0 0, .slice none 0 0, .slice none 0 0, .slice none 0 0, .slice none 0 0, .slice none 0 0, .int .i64 0, .slice none 0 0, .slice none 0 0, .slice none 0 0], .slice none 0 0, .agg #[.int .i64 0, .int .i64 0, .int .i64 0, .int .i64 0, .int .i64 0, .int .i64 0, .int .i64 0, .int .i64 0, .int .i64 0, .int .i64 0, .int .i64 0, .int .i64 0, .int .i64 0, .int .i64 0, .int .i64 0, .int .i64 0, .int .i64 0, .int .i64 0, .int .i64 0], .int .u8 0] 8 rfl (World.shaped_of_RefB kR kR) kR kR kR (rC os _)) rfl rfl rfl Tryz.underlying4
  (λds h=>by
   match ds,h with
   |[d0,d1,d2,d3],_=>rfl) mo kR (λW base args ds p hX hval hA _=>pU W base args ds p (oJ hX) hval hA)
theorem qH:Rows.CpuWaysSaid:=
 OpenClaim.holds_of_wide 8 Tryz.f8 rfl rfl rfl rfl rfl rfl rfl ⟨rfl,rfl,rfl,rfl,rfl⟩ rfl rfl rfl rfl rfl kR Tryz.func8 kR
  (of_decide_eq_true kR) (by unfold Func.isWrapper;first|(rw[if_pos (by decide+kernel)];kernel_rfl)|(rw[if_neg (by decide+kernel)];exact⟨rfl,rfl⟩))
  (λos started H enc _=>mJ os started H enc)
theorem ways_holds:Rows.CpuWaysCardSaid:=
 Claim7.holds_tied_plain_at .later [] [.listed, .data, .widerDeep] true (true, "23d74111835e41e2a2a2670fca69a44dc62c335d2117a5dc05f6498d2428bb8b") true
  qH (λ_ h=>by cases h) kR (λ_ h=>by cases h) cpuWays_row_tie rfl ⟨rfl,rfl⟩ kR rfl
  (λf fn hf hfn=>by
   obtain rfl:f=8:=inS ((show Tryz.prog.funcNamed "ceiling/ceilinglaw28.CpuWays"=some 8 by kernel_rfl).symm.trans hf)|>.symm
   obtain rfl:fn=Tryz.f8:=(inS (Tryz.func8.symm.trans hfn)).symm
   exact⟨by kernel_rfl,λj t ht=>by
    rw[Tryz.params8] at ht
    have hm:t∈[38,42,41,5]:=by
     have:=Array.mem_of_getElem? ht
     simp only[List.mem_toArray,List.mem_cons,List.not_mem_nil,or_false] at this
     rcases this with rfl|rfl|rfl|rfl<;>simp
    have hall:([38,42,41,5].all λu=> !Tryz.prog.wantsStandIn u)=true:=by kernel_rfl
    exact(show Tryz.prog.wantsStandIn t=false by simpa using List.all_eq_true.1 hall t hm)⟩)
  kR
end Go.Proofs.YtkbahggepncliaaGreatDoor
