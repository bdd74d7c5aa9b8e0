/- TextGet: for every slice of bytes: text.Get answers as the reference: the call returns true and leaves its arguments as they were. No condition but the card's own: the listed variables hold what the program's text lays. -/
import Derived.SevenTiedAt
import Derived.Test.YtejcfgjpdocaoaaGreatDoorCards
import Derived.Test.YtejcfgjpdocaoaaGreatDoorTie
import Derived.Test.YtejcfgjpdocaoaaGreatDoorVget
import Derived.Test.YtejcfgjpdocaoaaGreatDoorR
set_option linter.all false
set_option maxRecDepth 100000
namespace Go.Proofs.YtejcfgjpdocaoaaGreatDoor
open Go Go.Sk
open Go.ChangeShapes Go.WideShapes Go.ChangeAt Go.RowKit
theorem tV{H:Type}{enc:TypeId×Value->H}(W:World)(base:Nat)(args:Array Value)(ds:List (DataW H))(p:List MemPlace)(hX:Gl (bq W) W)(hval:∀(j:Nat) t v,Tryz.f5.params[j]? =some t->args[j]? =some v->Value.okWide Tryz.prog W .any base t v)(hA:DataW.TrodAll enc Tryz.prog W 0 (λ_=>true) true Tryz.f5.params.toList args.toList ds p):Calls Tryz.prog 5 args W λe W'=>e= .returned (.bool true)/\Go.RowKit.Below W.heap.size W W':=by rw[Tryz.params5] at hA hval;obtain⟨args⟩:=args;simp only at hA;obtain⟨v0,vs0,d0,ds0,p0,q0,rfl,rfl,t0,hA0⟩:=lR hA;obtain rfl:=mQ hA0;obtain⟨x0,r0,g0⟩:=rO (λfuel=>(mW Tryz.underlying42 cs5 dC el5 λf hf=>rd5 f)) t0;have a0:=xt r0 (rT Tryz.underlying42 (hval 0 42 v0 rfl rfl));exact o7 hX (f5_c x0 (vF x0 λx hx=>u8r (g0.1 x hx))) (by exact(bE (by simpa[RA] using a0) cA))
theorem pZ(os:Os)(started:os.Started)(H:Type)(enc:TypeId×Value->H):
  ReturnsInHanded {} Tryz.checked os 5 .any (λw args=>(Rows.textGetSpec.pre enc Tryz.prog Tryz.f5 [] false w args/\laidMetH Tryz.prog oJ w)/\sizedMet enc Tryz.prog Tryz.f5 (OpenSpec.ofChange Rows.textGetSpec) false w args) (Rows.textGetSpec.post enc Tryz.prog Tryz.f5 false true false false):=
 ng (C:=Tryz.checked) 1 (λw=>laidMetH Tryz.prog oJ w) (λ_ _ hh h=>h.of_heap hh) Tryz.own started kR Tryz.func5
  (ChangeSpec.witness_shaped (enc:=enc) (C:=Tryz.checked) (os:=os) (X:=λw _=>laidMetH Tryz.prog oJ w) false (World.doorLaid Tryz.prog 400 os) #[.slice none 0 0] 8 rfl (World.shaped_of_RefB kR kR) kR kR kR (ua os _)) rfl rfl rfl Tryz.underlying4
  (λds h=>by
   match ds,h with
   |[d0],_=>rfl) nH kR (λW base args ds p hX hval hA _=>tV W base args ds p (pY hX) hval hA)
theorem xV:Tryz.prog.inPlace 5=Rows.textGetRow.inPlace:=by kernel_rfl
theorem xU:Tryz.prog.unfollowed 5=Rows.textGetRow.unfollowed:=by kernel_rfl
theorem xT:Tryz.prog.recurses 5=Rows.textGetRow.recurses:=by kernel_rfl
theorem xS:Tryz.prog.varsNamed 5=Rows.textGetRow.named:=by kernel_rfl
theorem get_j:joinedFacts Tryz.pinned.checked.prog 5 Tryz.f5 Rows.textGetSpec Rows.textGetRow=true:=by unfold joinedFacts;rw[show Tryz.pinned.checked.prog.inPlace 5=_ from xV,show Tryz.pinned.checked.prog.unfollowed 5=_ from xU,show Tryz.pinned.checked.prog.recurses 5=_ from xT,show Tryz.pinned.checked.prog.varsNamed 5=_ from xS];kernel_rfl
theorem vN:Rows.TextGetSaid:=
 OpenClaim.holds_of_wide 5 Tryz.f5 rfl rfl rfl rfl rfl rfl rfl ⟨rfl,rfl,rfl,rfl,rfl⟩ rfl rfl rfl rfl rfl kR Tryz.func5 get_j
  (of_decide_eq_true kR) (by unfold Func.isWrapper;first|(rw[if_pos (by decide+kernel)];kernel_rfl)|(rw[if_neg (by decide+kernel)];exact⟨rfl,rfl⟩))
  (λos started H enc _=>pZ os started H enc)
theorem get_holds:Rows.TextGetCardSaid:=
 Claim7.holds_tied_plain_at .later [] [.listed, .data, .widerDeep] true (true, "526d030c42a6d91ba516f7b8a0b699c1f497b54958480b9a8c28503da73e808f") false
  vN (λ_ h=>by cases h) kR (λ_ h=>by cases h) textGet_row_tie rfl ⟨rfl,rfl⟩ kR rfl
  (λf fn hf hfn=>by
   obtain rfl:f=5:=inS ((show Tryz.prog.funcNamed "ceiling/ceilinglaw23.TextGet"=some 5 by kernel_rfl).symm.trans hf)|>.symm
   obtain rfl:fn=Tryz.f5:=(inS (Tryz.func5.symm.trans hfn)).symm;exact⟨by kernel_rfl,λj t ht=>by
    rw[Tryz.params5] at ht;have hm:t∈[42]:=by have:=Array.mem_of_getElem? ht;simp only[List.mem_toArray,List.mem_cons,List.not_mem_nil,or_false] at this;rcases this with rfl<;>simp
    have hall:([42].all λu=> !Tryz.prog.wantsStandIn u)=true:=by kernel_rfl
    exact(show Tryz.prog.wantsStandIn t=false by simpa using List.all_eq_true.1 hall t hm)⟩)
  kR
end Go.Proofs.YtejcfgjpdocaoaaGreatDoor
