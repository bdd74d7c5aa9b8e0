/- TathNest: for every list of levels, nested loops cost what the statement reckons: the call returns true and leaves its argument as it was. No condition but the card's own: the listed variables hold what the program's text lays. -/
import Derived.SevenTiedAt
import Derived.Test.YtoigciljcejeaaaGreatDoorCards
import Derived.Test.YtoigciljcejeaaaGreatDoorTie
import Derived.Test.YtoigciljcejeaaaGreatDoorWl
import Derived.Test.YtoigciljcejeaaaGreatDoorR
set_option linter.all false
set_option maxRecDepth 100000
namespace Go.Proofs.YtoigciljcejeaaaGreatDoor
open Go Go.Sk
open Go.ChangeShapes Go.WideShapes Go.ChangeAt Go.RowKit
theorem rj{H:Type}{enc:TypeId×Value->H}(W:World)(base:Nat)(args:Array Value)(ds:List (DataW H))(p:List MemPlace)(hX:Gl (bu W) W)(hval:∀(j:Nat) t v,Tryz.f3.params[j]? =some t->args[j]? =some v->Value.okWide Tryz.prog W .any base t v)(hA:pi enc Tryz.prog W (λ_=>true) true Tryz.f3.params.toList args.toList ds p):Calls Tryz.prog 3 args W λe W'=>e= .returned (.bool true)/\Go.RowKit.Below W.heap.size W W':=by rw[Tryz.params3] at hA hval;obtain⟨args⟩:=args;simp only at hA;obtain⟨v0,vs0,d0,ds0,p0,q0,rfl,rfl,t0,hA0⟩:=lZ hA;obtain rfl:=mP hA0;obtain⟨x0,r0,g0⟩:=rg (λfuel=>(mX Tryz.underlying22 cs42 dC el42 λf hf=>rd42 f)) t0;have a0:=vz r0 (ri Tryz.underlying22 (hval 0 22 v0 rfl rfl));exact o6 hX (f3_c x0 (sD g0.1)) (by exact(aC (by simpa[RA] using a0) bB))
theorem oF(os:Os)(started:os.Started)(H:Type)(enc:TypeId×Value->H):
  ReturnsInHanded {} Tryz.checked os 3 .any (λw args=>(Rows.pathNestSpec.pre enc Tryz.prog Tryz.f3 [] false w args/\laidMetH Tryz.prog oP w)/\sizedMet enc Tryz.prog Tryz.f3 (OpenSpec.ofChange Rows.pathNestSpec) false w args) (Rows.pathNestSpec.post enc Tryz.prog Tryz.f3 false true false false):=
 ne (C:=Tryz.checked) 1 (λw=>laidMetH Tryz.prog oP w) (λ_ _ hh h=>h.of_heap hh) Tryz.own started kR Tryz.func3
  (ChangeSpec.witness_shaped (enc:=enc) (C:=Tryz.checked) (os:=os) (X:=λw _=>laidMetH Tryz.prog oP w) false (World.doorLaid Tryz.prog 400 os) #[.slice none 0 0] 8 rfl (World.shaped_of_RefB kR kR) kR kR kR (ta os _)) rfl rfl rfl Tryz.underlying4
  (λds h=>by
   match ds,h with
   |[d0],_=>rfl) nw kR (λW base args ds p hX hval hA _=>rj W base args ds p (pV hX) hval hA)
theorem ub:Tryz.prog.inPlace 3=Rows.pathNestRow.inPlace:=by kernel_rfl
theorem ua:Tryz.prog.unfollowed 3=Rows.pathNestRow.unfollowed:=by kernel_rfl
theorem t8:Tryz.prog.recurses 3=Rows.pathNestRow.recurses:=by kernel_rfl
theorem t7:Tryz.prog.varsNamed 3=Rows.pathNestRow.named:=by kernel_rfl
theorem vF:joinedFacts Tryz.pinned.checked.prog 3 Tryz.f3 Rows.pathNestSpec Rows.pathNestRow=true:=by unfold joinedFacts;rw[show Tryz.pinned.checked.prog.inPlace 3=_ from ub,show Tryz.pinned.checked.prog.unfollowed 3=_ from ua,show Tryz.pinned.checked.prog.recurses 3=_ from t8,show Tryz.pinned.checked.prog.varsNamed 3=_ from t7];kernel_rfl
theorem su:Rows.PathNestSaid:=
 OpenClaim.holds_of_wide 3 Tryz.f3 rfl rfl rfl rfl rfl rfl rfl ⟨rfl,rfl,rfl,rfl,rfl⟩ rfl rfl rfl rfl rfl kR Tryz.func3 vF
  (of_decide_eq_true kR) (by unfold Func.isWrapper;first|(rw[if_pos (by decide+kernel)];kernel_rfl)|(rw[if_neg (by decide+kernel)];exact⟨rfl,rfl⟩))
  (λos started H enc _=>oF os started H enc)
theorem nest_holds:Rows.PathNestCardSaid:=
 Claim7.holds_tied_plain_at .later [] [.listed, .data, .widerDeep, .data] true (true, "9c1d940d79f720554163c90a7098a394c53dfc4f9a29b873af2f9e1868305d7a") false
  su (λ_ h=>by cases h) kR (λ_ h=>by cases h) pathNest_row_tie rfl ⟨rfl,rfl⟩ kR rfl
  (λf fn hf hfn=>by
   obtain rfl:f=3:=inS ((show Tryz.prog.funcNamed "ceiling/ceilinglaw38.PathNest"=some 3 by kernel_rfl).symm.trans hf)|>.symm
   obtain rfl:fn=Tryz.f3:=(inS (Tryz.func3.symm.trans hfn)).symm;exact⟨by kernel_rfl,λj t ht=>by
    rw[Tryz.params3] at ht;have hm:t∈[22]:=by have:=Array.mem_of_getElem? ht;simp only[List.mem_toArray,List.mem_cons,List.not_mem_nil,or_false] at this;rcases this with rfl<;>simp
    have hall:([22].all λu=> !Tryz.prog.wantsStandIn u)=true:=by kernel_rfl
    exact(show Tryz.prog.wantsStandIn t=false by simpa using List.all_eq_true.1 hall t hm)⟩)
  kR
end Go.Proofs.YtoigciljcejeaaaGreatDoor
