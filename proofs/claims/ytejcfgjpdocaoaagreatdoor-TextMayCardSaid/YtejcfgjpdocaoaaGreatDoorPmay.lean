/- TextMay: for every text: the call returns true and leaves its arguments as they were. No condition but the card's own: the listed variables hold what the program's text lays. -/
import Derived.SevenTiedAt
import Derived.Test.YtejcfgjpdocaoaaGreatDoorCards
import Derived.Test.YtejcfgjpdocaoaaGreatDoorTie
import Derived.Test.YtejcfgjpdocaoaaGreatDoorVmay
import Derived.Test.YtejcfgjpdocaoaaGreatDoorR
set_option linter.unusedVariables false
set_option linter.unusedSimpArgs false
set_option linter.unusedSectionVars false
set_option linter.unnecessarySimpa false
set_option maxRecDepth 100000
namespace Go.Proofs.YtejcfgjpdocaoaaGreatDoor
open Go Go.Sk
open Go.ChangeShapes Go.WideShapes Go.ChangeAt Go.RowKit
theorem qd{H:Type}{enc:TypeId×Value→H}(W:World)(base:Nat)(args:Array Value)(ds:List (DataW H))(p:List MemPlace)(hX:Gl (aD W) W)(hval:∀(j:Nat) t v,Tryz.f3.params[j]? =some t→args[j]? =some v→Value.okWide Tryz.prog W .any base t v)(hA:DataW.TrodAll enc Tryz.prog W 0 (λ_=>true) true Tryz.f3.params.toList args.toList ds p):Calls Tryz.prog 3 args W λe W'=>e= .returned (.bool true)∧Go.RowKit.Below W.heap.size W W':=by
 rw[Tryz.params3] at hA hval
 obtain⟨args⟩:=args
 simp only at hA
 obtain⟨v0,vs0,d0,ds0,p0,q0,rfl,rfl,t0,hA0⟩:=jy hA
 obtain rfl:=kw hA0
 obtain⟨x0,r0,g0⟩:=pb (λfuel=>(rd33 fuel)) t0
 obtain⟨c0,rfl⟩:=nB Tryz.underlying33 (hval 0 33 v0 rfl rfl)
 have a0:=tF r0
 exact my hX (f3_c x0 (sf x0 g0.1 g0.2 g0.3)) (by exact(aU (by simpa[RA] using a0) bG))
theorem ni(os:Os)(started:os.Started)(H:Type)(enc:TypeId×Value→H):
  ReturnsInHanded {} Tryz.checked os 3 .any (λw args=>(Rows.textMaySpec.pre enc Tryz.prog Tryz.f3 [] false w args∧laidMetH Tryz.prog ma w)∧sizedMet enc Tryz.prog Tryz.f3 (OpenSpec.ofChange Rows.textMaySpec) false w args) (Rows.textMaySpec.post enc Tryz.prog Tryz.f3 false true false false):=
 kH (C:=Tryz.checked) 1 (λw=>laidMetH Tryz.prog ma w) (λ_ _ hh h=>h.of_heap hh) Tryz.own started kR Tryz.func3
  (ChangeSpec.witness_shaped (enc:=enc) (C:=Tryz.checked) (os:=os) (X:=λw _=>laidMetH Tryz.prog ma w) false (World.doorLaid Tryz.prog 400 os) #[.agg #[.slice none 0 0, .slice none 0 0, .slice none 0 0, .slice none 0 0, .slice none 0 0, .slice none 0 0, .slice none 0 0, .int .i64 0, .slice none 0 0, .slice none 0 0, .slice none 0 0]] 8 rfl (World.shaped_of_RefB kR kR) kR kR kR (qT os _)) rfl rfl rfl Tryz.underlying4
  (λds h=>by
   match ds,h with
   |[d0],_=>rfl) kY kR (λW base args ds p hX hval hA _=>qd W base args ds p (nl hX) hval hA)
theorem rZ:Rows.TextMaySaid:=
 OpenClaim.holds_of_wide 3 Tryz.f3 rfl rfl rfl rfl rfl rfl rfl ⟨rfl,rfl,rfl,rfl,rfl⟩ rfl rfl rfl rfl rfl kR Tryz.func3 kR
  (of_decide_eq_true kR) (by unfold Func.isWrapper;first|(rw[if_pos (by decide+kernel)];kernel_rfl)|(rw[if_neg (by decide+kernel)];exact⟨rfl,rfl⟩))
  (λos started H enc _=>ni os started H enc)
theorem may_holds:Rows.TextMayCardSaid:=
 Claim7.holds_tied_plain_at .later [] [.listed, .data, .widerDeep] true (true, "526d030c42a6d91ba516f7b8a0b699c1f497b54958480b9a8c28503da73e808f") false
  rZ (λ_ h=>by cases h) kR (λ_ h=>by cases h) textMay_row_tie rfl ⟨rfl,rfl⟩ kR rfl
  (λf fn hf hfn=>by
   obtain rfl:f=3:=inS ((show Tryz.prog.funcNamed "ceiling/ceilinglaw23.TextMay"=some 3 by kernel_rfl).symm.trans hf)|>.symm
   obtain rfl:fn=Tryz.f3:=(inS (Tryz.func3.symm.trans hfn)).symm
   exact⟨by kernel_rfl,λj t ht=>by
    rw[Tryz.params3] at ht
    have hm:t∈[33]:=by
     have:=Array.mem_of_getElem? ht
     simp only[List.mem_toArray,List.mem_cons,List.not_mem_nil,or_false] at this
     rcases this with rfl<;>simp
    have hall:([33].all λu=> !Tryz.prog.wantsStandIn u)=true:=by kernel_rfl
    exact(show Tryz.prog.wantsStandIn t=false by simpa using List.all_eq_true.1 hall t hm)⟩)
  kR
end Go.Proofs.YtejcfgjpdocaoaaGreatDoor
