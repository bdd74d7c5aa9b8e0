/- CpuPlays: for every text, input and sequence of calls: the call returns true and leaves its arguments as they were. No condition but the card's own: the listed variables hold what the program's text lays. -/
import Derived.SevenTiedAt
import Derived.Test.YtkbahggepncliaaGreatDoorCards
import Derived.Test.YtkbahggepncliaaGreatDoorTie
import Derived.Test.YtkbahggepncliaaGreatDoorWc
import Derived.Test.YtkbahggepncliaaGreatDoorR
set_option linter.unusedVariables false
set_option linter.unusedSimpArgs false
set_option linter.unusedSectionVars false
set_option linter.unnecessarySimpa false
set_option maxRecDepth 100000
namespace Go.Proofs.YtkbahggepncliaaGreatDoor
open Go Go.Sk
open Go.ChangeShapes Go.WideShapes Go.ChangeAt Go.RowKit
theorem qe{H:Type}{enc:TypeId×Value→H}(W:World)(base:Nat)(args:Array Value)(ds:List (DataW H))(p:List MemPlace)(hX:Gl (bv W) W)(hval:∀(j:Nat) t v,Tryz.f6.params[j]? =some t→args[j]? =some v→Value.okWide Tryz.prog W .any base t v)(hA:DataW.TrodAll enc Tryz.prog W 0 (λ_=>true) true Tryz.f6.params.toList args.toList ds p):Calls Tryz.prog 6 args W λe W'=>e= .returned (.bool true)∧Go.RowKit.Below W.heap.size W W':=by
 rw[Tryz.params6] at hA hval
 obtain⟨args⟩:=args
 simp only at hA
 obtain⟨v0,vs0,d0,ds0,p0,q0,rfl,rfl,t0,hA0⟩:=fX hA
 obtain⟨v1,vs1,d1,ds1,p1,q1,rfl,rfl,t1,hA1⟩:=fX hA0
 obtain⟨v2,vs2,d2,ds2,p2,q2,rfl,rfl,t2,hA2⟩:=fX hA1
 obtain rfl:=nM hA2
 obtain⟨x0,r0,g0⟩:=kp (λfuel=>(rd38 fuel)) t0
 obtain⟨c0,rfl⟩:=qv Tryz.underlying38 (hval 0 38 v0 rfl rfl)
 have a0:=vX r0
 obtain⟨x1,r1,g1⟩:=kp (λfuel=>(aY Tryz.underlying42 cs2 dC el2 λf hf=>rd2 f)) t1
 have a1:=s5 r1 (nm Tryz.underlying42 (hval 1 42 v1 rfl rfl))
 obtain⟨x2,r2,g2⟩:=kp (λfuel=>(aY Tryz.underlying71 cs73 dC el73 λf hf=>rd73 f)) t2
 have a2:=s5 r2 (nm Tryz.underlying71 (hval 2 71 v2 rfl rfl))
 exact pu hX (f6_c x0 x1 x2 (rK x0 x1 x2 g0.1 g0.2 g0.3 (λv hv=>pf (g1.1 v hv)) λs hs=>g2.1 s hs)) (by exact(a9 (by simpa[RA] using a0) (a9 (by simpa[RA] using a1) (a9 (by simpa[RA] using a2) cK))))
theorem nS(os:Os)(started:os.Started)(H:Type)(enc:TypeId×Value→H):
  ReturnsInHanded {} Tryz.checked os 6 .any (λw args=>(Rows.cpuPlaysSpec.pre enc Tryz.prog Tryz.f6 [] false w args∧laidMetH Tryz.prog pb w)∧sizedMet enc Tryz.prog Tryz.f6 (OpenSpec.ofChange Rows.cpuPlaysSpec) false w args) (Rows.cpuPlaysSpec.post enc Tryz.prog Tryz.f6 false true false false):=
 nX (C:=Tryz.checked) 3 (λw=>laidMetH Tryz.prog pb w) (λ_ _ hh h=>h.of_heap hh) Tryz.own started kR Tryz.func6
  (ChangeSpec.witness_shaped (enc:=enc) (C:=Tryz.checked) (os:=os) (X:=λw _=>laidMetH Tryz.prog pb w) false (World.doorLaid Tryz.prog 400 os) #[.agg #[.slice none 0 0, .slice none 0 0, .slice none 0 0, .slice none 0 0, .slice none 0 0, .slice none 0 0, .slice none 0 0, .int .i64 0, .slice none 0 0, .slice none 0 0, .slice none 0 0], .slice none 0 0, .slice none 0 0] 8 rfl (World.shaped_of_RefB kR kR) kR kR kR (tG os _)) rfl rfl rfl Tryz.underlying4
  (λds h=>by
   match ds,h with
   |[d0,d1,d2],_=>rfl) oe kR (λW base args ds p hX hval hA _=>qe W base args ds p (qq hX) hval hA)
theorem rH:Rows.CpuPlaysSaid:=
 OpenClaim.holds_of_wide 6 Tryz.f6 rfl rfl rfl rfl rfl rfl rfl ⟨rfl,rfl,rfl,rfl,rfl⟩ rfl rfl rfl rfl rfl kR Tryz.func6 kR
  (of_decide_eq_true kR) (by unfold Func.isWrapper;first|(rw[if_pos (by decide+kernel)];kernel_rfl)|(rw[if_neg (by decide+kernel)];exact⟨rfl,rfl⟩))
  (λos started H enc _=>nS os started H enc)
theorem plays_holds:Rows.CpuPlaysCardSaid:=
 Claim7.holds_tied_plain_at .later [] [.listed, .data, .widerDeep] true (true, "23d74111835e41e2a2a2670fca69a44dc62c335d2117a5dc05f6498d2428bb8b") true
  rH (λ_ h=>by cases h) kR (λ_ h=>by cases h) cpuPlays_row_tie rfl ⟨rfl,rfl⟩ kR rfl
  (λf fn hf hfn=>by
   obtain rfl:f=6:=inS ((show Tryz.prog.funcNamed "ceiling/ceilinglaw28.CpuPlays"=some 6 by kernel_rfl).symm.trans hf)|>.symm
   obtain rfl:fn=Tryz.f6:=(inS (Tryz.func6.symm.trans hfn)).symm
   exact⟨by kernel_rfl,λj t ht=>by
    rw[Tryz.params6] at ht
    have hm:t∈[38,42,71]:=by
     have:=Array.mem_of_getElem? ht
     simp only[List.mem_toArray,List.mem_cons,List.not_mem_nil,or_false] at this
     rcases this with rfl|rfl|rfl<;>simp
    have hall:([38,42,71].all λu=> !Tryz.prog.wantsStandIn u)=true:=by kernel_rfl
    exact(show Tryz.prog.wantsStandIn t=false by simpa using List.all_eq_true.1 hall t hm)⟩)
  kR
end Go.Proofs.YtkbahggepncliaaGreatDoor
