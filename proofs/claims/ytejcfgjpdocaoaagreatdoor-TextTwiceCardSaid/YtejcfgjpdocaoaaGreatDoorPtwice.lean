/- TextTwice: for every text and any two sets of checks: the call returns true and leaves its arguments as they were. No condition but the card's own: the listed variables hold what the program's text lays. -/
import Derived.SevenTiedAt
import Derived.Test.YtejcfgjpdocaoaaGreatDoorCards
import Derived.Test.YtejcfgjpdocaoaaGreatDoorTie
import Derived.Test.YtejcfgjpdocaoaaGreatDoorVtwice
import Derived.Test.YtejcfgjpdocaoaaGreatDoorR
set_option linter.unusedVariables false
set_option linter.unusedSimpArgs false
set_option linter.unusedSectionVars false
set_option linter.unnecessarySimpa false
set_option maxRecDepth 100000
namespace Go.Proofs.YtejcfgjpdocaoaaGreatDoor
open Go Go.Sk
open Go.ChangeShapes Go.WideShapes Go.ChangeAt Go.RowKit
theorem pD{H:Type}{enc:TypeId×Value→H}(W:World)(base:Nat)(args:Array Value)(ds:List (DataW H))(p:List MemPlace)(hX:Gl (aP W) W)(hval:∀(j:Nat) t v,Tryz.f7.params[j]? =some t→args[j]? =some v→Value.okWide Tryz.prog W .any base t v)(hA:DataW.TrodAll enc Tryz.prog W 0 (λ_=>true) true Tryz.f7.params.toList args.toList ds p):Calls Tryz.prog 7 args W λe W'=>e= .returned (.bool true)∧Go.RowKit.Below W.heap.size W W':=by
 rw[Tryz.params7] at hA hval
 obtain⟨args⟩:=args
 simp only at hA
 obtain⟨v0,vs0,d0,ds0,p0,q0,rfl,rfl,t0,hA0⟩:=eY hA
 obtain⟨v1,vs1,d1,ds1,p1,q1,rfl,rfl,t1,hA1⟩:=eY hA0
 obtain⟨v2,vs2,d2,ds2,p2,q2,rfl,rfl,t2,hA2⟩:=eY hA1
 obtain rfl:=mY hA2
 obtain⟨x0,r0,g0⟩:=jz (λfuel=>(rd33 fuel)) t0
 obtain⟨c0,rfl⟩:=p8 Tryz.underlying33 (hval 0 33 v0 rfl rfl)
 have a0:=xN r0
 obtain⟨x1,r1,g1⟩:=jz (λfuel=>(ar Tryz.underlying53 fuel)) t1
 have a1:=tp r1 (qD Tryz.underlying53 (hval 1 53 v1 rfl rfl))
 obtain⟨x2,r2,g2⟩:=jz (λfuel=>(ar Tryz.underlying53 fuel)) t2
 have a2:=tp r2 (qD Tryz.underlying53 (hval 2 53 v2 rfl rfl))
 exact o5 hX (f7_c x0 x1 x2 (rW x0 g0.1 g0.2 g0.3 x1 x2)) (by exact(aS (by simpa[RA] using a0) (aS (by simpa[RA] using a1) (aS (by simpa[RA] using a2) bF))))
theorem mX(os:Os)(started:os.Started)(H:Type)(enc:TypeId×Value→H):
  ReturnsInHanded {} Tryz.checked os 7 .any (λw args=>(Rows.textTwiceSpec.pre enc Tryz.prog Tryz.f7 [] false w args∧laidMetH Tryz.prog oH w)∧sizedMet enc Tryz.prog Tryz.f7 (OpenSpec.ofChange Rows.textTwiceSpec) false w args) (Rows.textTwiceSpec.post enc Tryz.prog Tryz.f7 false true false false):=
 nj (C:=Tryz.checked) 3 (λw=>laidMetH Tryz.prog oH w) (λ_ _ hh h=>h.of_heap hh) Tryz.own started kR Tryz.func7
  (ChangeSpec.witness_shaped (enc:=enc) (C:=Tryz.checked) (os:=os) (X:=λw _=>laidMetH Tryz.prog oH w) false (World.doorLaid Tryz.prog 400 os) #[.agg #[.slice none 0 0, .slice none 0 0, .slice none 0 0, .slice none 0 0, .slice none 0 0, .slice none 0 0, .slice none 0 0, .int .i64 0, .slice none 0 0, .slice none 0 0, .slice none 0 0], .int .u64 0, .int .u64 0] 8 rfl (World.shaped_of_RefB kR kR) kR kR kR (ux os _)) rfl rfl rfl Tryz.underlying4
  (λds h=>by
   match ds,h with
   |[d0,d1,d2],_=>rfl) nI kR (λW base args ds p hX hval hA _=>pD W base args ds p (pT hX) hval hA)
theorem sZ:Tryz.prog.inPlace 7=Rows.textTwiceRow.inPlace:=by kernel_rfl
theorem sY:Tryz.prog.unfollowed 7=Rows.textTwiceRow.unfollowed:=by kernel_rfl
theorem sX:Tryz.prog.recurses 7=Rows.textTwiceRow.recurses:=by kernel_rfl
theorem sW:Tryz.prog.varsNamed 7=Rows.textTwiceRow.named:=by kernel_rfl
theorem vc:joinedFacts Tryz.pinned.checked.prog 7 Tryz.f7 Rows.textTwiceSpec Rows.textTwiceRow=true:=by
 unfold joinedFacts
 rw[show Tryz.pinned.checked.prog.inPlace 7=_ from sZ,show Tryz.pinned.checked.prog.unfollowed 7=_ from sY,show Tryz.pinned.checked.prog.recurses 7=_ from sX,show Tryz.pinned.checked.prog.varsNamed 7=_ from sW]
 kernel_rfl
theorem rJ:Rows.TextTwiceSaid:=
 OpenClaim.holds_of_wide 7 Tryz.f7 rfl rfl rfl rfl rfl rfl rfl ⟨rfl,rfl,rfl,rfl,rfl⟩ rfl rfl rfl rfl rfl kR Tryz.func7 vc
  (of_decide_eq_true kR) (by unfold Func.isWrapper;first|(rw[if_pos (by decide+kernel)];kernel_rfl)|(rw[if_neg (by decide+kernel)];exact⟨rfl,rfl⟩))
  (λos started H enc _=>mX os started H enc)
theorem twice_holds:Rows.TextTwiceCardSaid:=
 Claim7.holds_tied_plain_at .later [] [.listed, .data, .widerDeep] true (true, "526d030c42a6d91ba516f7b8a0b699c1f497b54958480b9a8c28503da73e808f") false
  rJ (λ_ h=>by cases h) kR (λ_ h=>by cases h) textTwice_row_tie rfl ⟨rfl,rfl⟩ kR rfl
  (λf fn hf hfn=>by
   obtain rfl:f=7:=inS ((show Tryz.prog.funcNamed "ceiling/ceilinglaw23.TextTwice"=some 7 by kernel_rfl).symm.trans hf)|>.symm
   obtain rfl:fn=Tryz.f7:=(inS (Tryz.func7.symm.trans hfn)).symm
   exact⟨by kernel_rfl,λj t ht=>by
    rw[Tryz.params7] at ht
    have hm:t∈[33,53]:=by
     have:=Array.mem_of_getElem? ht
     simp only[List.mem_toArray,List.mem_cons,List.not_mem_nil,or_false] at this
     rcases this with rfl|rfl|rfl<;>simp
    have hall:([33,53].all λu=> !Tryz.prog.wantsStandIn u)=true:=by kernel_rfl
    exact(show Tryz.prog.wantsStandIn t=false by simpa using List.all_eq_true.1 hall t hm)⟩)
  kR
end Go.Proofs.YtejcfgjpdocaoaaGreatDoor
