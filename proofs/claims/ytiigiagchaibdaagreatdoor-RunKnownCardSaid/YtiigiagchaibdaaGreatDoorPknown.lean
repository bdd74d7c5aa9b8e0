/- TunKnown: the examples: the call returns true and leaves its arguments as they were. No condition but the card's own: the listed variables hold what the program's text lays. -/
import Derived.SevenTiedAt
import Derived.Test.YtiigiagchaibdaaGreatDoorCards
import Derived.Test.YtiigiagchaibdaaGreatDoorTie
import Derived.Test.YtiigiagchaibdaaGreatDoorH
import Derived.Test.YtiigiagchaibdaaGreatDoorR
import Derived.Test.YtiigiagchaibdaaGreatDoorJ
set_option linter.unusedVariables false
set_option linter.unusedSimpArgs false
set_option linter.unusedSectionVars false
set_option linter.unnecessarySimpa false
set_option maxRecDepth 100000
namespace Go.Proofs.YtiigiagchaibdaaGreatDoor
open Go Go.Sk
open Go.ChangeShapes Go.WideShapes Go.ChangeAt Go.RowKit
theorem mT{H:Type}{enc:TypeId×Value→H}(W:World)(base:Nat)(args:Array Value)(ds:List (DataW H))(p:List MemPlace)(hX:Gl (aA W) W)(hval:∀(j:Nat) t v,Tryz.f3.params[j]? =some t→args[j]? =some v→Value.okWide Tryz.prog W .any base t v)(hA:ry enc Tryz.prog W (λ_=>true) true Tryz.f3.params.toList args.toList ds p):Calls Tryz.prog 3 args W λe W'=>e= .returned (.bool true)∧Go.RowKit.Below W.heap.size W W':=by
 rw[Tryz.params3] at hA hval
 obtain⟨args⟩:=args
 simp only at hA
 obtain rfl:=kg hA
 exact mg hX tK (by exact aR)
theorem ky(os:Os)(started:os.Started)(H:Type)(enc:TypeId×Value→H):
  ReturnsInHanded {} Tryz.checked os 3 .any (λw args=>(Rows.runKnownSpec.pre enc Tryz.prog Tryz.f3 [] false w args∧laidMetH Tryz.prog jJ w)∧sizedMet enc Tryz.prog Tryz.f3 (OpenSpec.ofChange Rows.runKnownSpec) false w args) (Rows.runKnownSpec.post enc Tryz.prog Tryz.f3 false true false false):=
 kx (C:=Tryz.checked) 0 (λw=>laidMetH Tryz.prog jJ w) (λ_ _ hh h=>h.of_heap hh) Tryz.own started kR Tryz.func3
  (ChangeSpec.witness_shaped (enc:=enc) (C:=Tryz.checked) (os:=os) (X:=λw _=>laidMetH Tryz.prog jJ w) false (DW0 os) #[] 8 rfl (World.shaped_of_RefB (qH os) (qG os)) (tC os) (tB os) (tA os) (rb os _)) rfl rfl rfl Tryz.underlying4
  (λds h=>by
   match ds,h with
   |[],_=>rfl) kU kR (λW base args ds p hX hval hA _=>mT W base args ds p (mX hX) hval hA)
theorem o4:Rows.RunKnownSaid:=
 OpenClaim.holds_of_wide 3 Tryz.f3 rfl rfl rfl rfl rfl rfl rfl ⟨rfl,rfl,rfl,rfl,rfl⟩ rfl rfl rfl rfl rfl kR Tryz.func3 tD
  (of_decide_eq_true kR) (by unfold Func.isWrapper;first|(rw[if_pos (by decide+kernel)];kernel_rfl)|(rw[if_neg (by decide+kernel)];exact⟨rfl,rfl⟩))
  (λos started H enc _=>ky os started H enc)
theorem known_holds:Rows.RunKnownCardSaid:=
 Claim7.holds_tied_plain_at .later [] [.listed, .data, .widerDeep] true (true, "e18396590d26bd3d22c9b71e115ed9ccd907c9ff6e83a1f74e5e118e4209299a") true
  o4 (λ_ h=>by cases h) kR (λ_ h=>by cases h) runKnown_row_tie rfl ⟨rfl,rfl⟩ kR rfl
  (λf fn hf hfn=>by
   obtain rfl:f=3:=inS ((show Tryz.prog.funcNamed "ceiling/ceilinglaw34.RunKnown"=some 3 by kernel_rfl).symm.trans hf)|>.symm
   obtain rfl:fn=Tryz.f3:=(inS (Tryz.func3.symm.trans hfn)).symm
   exact⟨by kernel_rfl,λj t ht=>by
    rw[Tryz.params3] at ht
    simp at ht⟩)
  mU
end Go.Proofs.YtiigiagchaibdaaGreatDoor
