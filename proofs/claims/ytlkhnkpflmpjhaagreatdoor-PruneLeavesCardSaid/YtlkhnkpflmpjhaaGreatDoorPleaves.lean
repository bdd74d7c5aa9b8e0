/- IruneLeaves: for every text: the call returns true and leaves its arguments as they were. No condition but the card's own: the listed variables hold what the program's text lays. -/
import Derived.SevenTiedAt
import Derived.Test.YtlkhnkpflmpjhaaGreatDoorCards
import Derived.Test.YtlkhnkpflmpjhaaGreatDoorTie
import Derived.Test.YtlkhnkpflmpjhaaGreatDoorVleaves
import Derived.Test.YtlkhnkpflmpjhaaGreatDoorR
set_option linter.all false
set_option maxRecDepth 100000
namespace Go.Proofs.YtlkhnkpflmpjhaaGreatDoor
open Go Go.Sk
open Go.ChangeShapes Go.WideShapes Go.ChangeAt Go.RowKit
theorem qm{H:Type}{enc:TypeId×Value->H}(W:World)(base:Nat)(args:Array Value)(ds:List (DataW H))(p:List MemPlace)(hX:Gl (bz W) W)(hval:∀(j:Nat) t v,Tryz.f4.params[j]? =some t->args[j]? =some v->Value.okWide Tryz.prog W .any base t v)(hA:DataW.TrodAll enc Tryz.prog W 0 (λ_=>true) true Tryz.f4.params.toList args.toList ds p):Calls Tryz.prog 4 args W λe W'=>e= .returned (.bool true)/\Go.RowKit.Below W.heap.size W W':=by rw[Tryz.params4] at hA hval;obtain⟨args⟩:=args;simp only at hA;obtain⟨v0,vs0,d0,ds0,p0,q0,rfl,rfl,t0,hA0⟩:=nr hA;obtain rfl:=oC hA0;obtain⟨x0,r0,g0⟩:=tM (λfuel=>(rd38 fuel)) t0;obtain⟨c0,rfl⟩:=rY Tryz.underlying38 (hval 0 38 v0 rfl rfl);have a0:=yp r0;exact qI hX (f4_c x0 (f4_law x0 g0.sz g0.sa g0.ob g0.nn)) (by exact(bp (by simpa[RA] using a0) cD))
theorem nD(os:Os)(started:os.Started)(H:Type)(enc:TypeId×Value->H):
  ReturnsInHanded {} Tryz.checked os 4 .any (λw args=>(Rows.pruneLeavesSpec.pre enc Tryz.prog Tryz.f4 [] false w args/\laidMetH Tryz.prog qo w)/\sizedMet enc Tryz.prog Tryz.f4 (OpenSpec.ofChange Rows.pruneLeavesSpec) false w args) (Rows.pruneLeavesSpec.post enc Tryz.prog Tryz.f4 false true false false):=
 oZ (C:=Tryz.checked) 1 (λw=>laidMetH Tryz.prog qo w) (λ_ _ hh h=>h.of_heap hh) Tryz.own started kR Tryz.func4
  (ChangeSpec.witness_shaped (enc:=enc) (C:=Tryz.checked) (os:=os) (X:=λw _=>laidMetH Tryz.prog qo w) false (World.doorLaid Tryz.prog 400 os) #[.agg #[.slice none 0 0, .slice none 0 0, .slice none 0 0, .slice none 0 0, .slice none 0 0, .slice none 0 0, .slice none 0 0, .int .i64 0, .slice none 0 0, .slice none 0 0, .slice none 0 0]] 8 rfl (World.shaped_of_RefB kR kR) kR kR kR (vV os _)) rfl rfl rfl Tryz.underlying4
  (λds h=>by
   match ds,h with
   |[d0],_=>rfl) pm kR (λW base args ds p hX hval hA _=>qm W base args ds p (rO hX) hval hA)
theorem tV:Tryz.prog.inPlace 4=Rows.pruneLeavesRow.inPlace:=by kernel_rfl
theorem tU:Tryz.prog.unfollowed 4=Rows.pruneLeavesRow.unfollowed:=by kernel_rfl
theorem tT:Tryz.prog.recurses 4=Rows.pruneLeavesRow.recurses:=by kernel_rfl
theorem tS:Tryz.prog.varsNamed 4=Rows.pruneLeavesRow.named:=by kernel_rfl
theorem vm:joinedFacts Tryz.pinned.checked.prog 4 Tryz.f4 Rows.pruneLeavesSpec Rows.pruneLeavesRow=true:=by unfold joinedFacts;rw[show Tryz.pinned.checked.prog.inPlace 4=_ from tV,show Tryz.pinned.checked.prog.unfollowed 4=_ from tU,show Tryz.pinned.checked.prog.recurses 4=_ from tT,show Tryz.pinned.checked.prog.varsNamed 4=_ from tS];kernel_rfl
theorem rM:Rows.PruneLeavesSaid:=
 OpenClaim.holds_of_wide 4 Tryz.f4 rfl rfl rfl rfl rfl rfl rfl ⟨rfl,rfl,rfl,rfl,rfl⟩ rfl rfl rfl rfl rfl kR Tryz.func4 vm
  (of_decide_eq_true kR) (by unfold Func.isWrapper;first|(rw[if_pos (by decide+kernel)];kernel_rfl)|(rw[if_neg (by decide+kernel)];exact⟨rfl,rfl⟩))
  (λos started H enc _=>nD os started H enc)
theorem leaves_holds:Rows.PruneLeavesCardSaid:=
 Claim7.holds_tied_plain_at .later [] [.listed, .data, .widerDeep] true (true, "7a6b42d6e885db3699120fec0cccbaf9276761bb48570981258e40085d4f1b69") false
  rM (λ_ h=>by cases h) kR (λ_ h=>by cases h) pruneLeaves_row_tie rfl ⟨rfl,rfl⟩ kR rfl
  (λf fn hf hfn=>by
   obtain rfl:f=4:=inS ((show Tryz.prog.funcNamed "ceiling/ceilinglaw27.PruneLeaves"=some 4 by kernel_rfl).symm.trans hf)|>.symm
   obtain rfl:fn=Tryz.f4:=(inS (Tryz.func4.symm.trans hfn)).symm;exact⟨by kernel_rfl,λj t ht=>by
    rw[Tryz.params4] at ht;have hm:t∈[38]:=by have:=Array.mem_of_getElem? ht;simp only[List.mem_toArray,List.mem_cons,List.not_mem_nil,or_false] at this;rcases this with rfl<;>simp
    have hall:([38].all λu=> !Tryz.prog.wantsStandIn u)=true:=by kernel_rfl
    exact(show Tryz.prog.wantsStandIn t=false by simpa using List.all_eq_true.1 hall t hm)⟩)
  kR
end Go.Proofs.YtlkhnkpflmpjhaaGreatDoor
