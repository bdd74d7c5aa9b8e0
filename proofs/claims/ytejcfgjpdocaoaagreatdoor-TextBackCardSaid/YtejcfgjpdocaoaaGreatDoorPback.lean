/- TextBack: for every text and every slice of bytes: the bytes of a text lead back to it, and a text that is read has these bytes: the call returns true and leaves its arguments as they were. No condition but the card's own: the listed variables hold what the program's text lays. -/
import Derived.SevenTiedAt
import Derived.Test.YtejcfgjpdocaoaaGreatDoorCards
import Derived.Test.YtejcfgjpdocaoaaGreatDoorTie
import Derived.Test.YtejcfgjpdocaoaaGreatDoorVback
import Derived.Test.YtejcfgjpdocaoaaGreatDoorR
set_option linter.all false
set_option maxRecDepth 100000
namespace Go.Proofs.YtejcfgjpdocaoaaGreatDoor
open Go Go.Sk Go.Tg
open Go.ChangeShapes Go.WideShapes Go.ChangeAt Go.RowKit
theorem se{H:Type}{enc:TypeId×Value->H}(W:World)(base:Nat)(args:Array Value)(ds:List (DataW H))(p:List MemPlace)(hX:Gl (bl W) W)(hval:∀(j:Nat) t v,Tryz.f6.params[j]? =some t->args[j]? =some v->Value.okWide Tryz.prog W .any base t v)(hA:oU enc Tryz.prog W (λ_=>true) true Tryz.f6.params.toList args.toList ds p):Calls Tryz.prog 6 args W λe W'=>e= .returned (.bool true)/\Go.RowKit.Below W.heap.size W W':=by rw[Tryz.params6] at hA hval;obtain⟨args⟩:=args;simp only at hA;obtain⟨v0,vs0,d0,ds0,p0,q0,rfl,rfl,t0,hA0⟩:=gS hA;obtain⟨v1,vs1,d1,ds1,p1,q1,rfl,rfl,t1,hA1⟩:=gS hA0;obtain rfl:=mG hA1;obtain⟨x0,r0,g0⟩:=l5 (λfuel=>(rd33 fuel)) t0;obtain⟨c0,rfl⟩:=pJ Tryz.underlying33 (hval 0 33 v0 rfl rfl);have a0:=xq r0;obtain⟨x1,r1,g1⟩:=l5 (λfuel=>(bh Tryz.underlying42 cs5 dC el5 λf hf=>rd5 f)) t1;have a1:=xp r1 (rI Tryz.underlying42 (hval 1 42 v1 rfl rfl));exact oO hX (f6_c x0 x1 (tB x0 g0 g0.szl x1 λx hx=>(λh=>⟨h.1,by have:=h.2;omega⟩) (u8r (g1.1 x hx)))) (by exact(bp (by simpa[RA] using a0) (bp (by simpa[RA] using a1) cf)))
theorem oR(os:Os)(started:os.Started)(H:Type)(enc:TypeId×Value->H):
  ReturnsInHanded {} Tryz.checked os 6 .any (λw args=>(Rows.textBackSpec.pre enc Tryz.prog Tryz.f6 [] false w args/\laidMetH Tryz.prog ou w)/\sizedMet enc Tryz.prog Tryz.f6 (OpenSpec.ofChange Rows.textBackSpec) false w args) (Rows.textBackSpec.post enc Tryz.prog Tryz.f6 false true false false):=
 mU (C:=Tryz.checked) 2 (λw=>laidMetH Tryz.prog ou w) (λ_ _ hh h=>h.of_heap hh) Tryz.own started kR Tryz.func6
  (ChangeSpec.witness_shaped (enc:=enc) (C:=Tryz.checked) (os:=os) (X:=λw _=>laidMetH Tryz.prog ou w) false (World.doorLaid Tryz.prog 400 os) #[.agg #[.slice none 0 0, .slice none 0 0, .slice none 0 0, .slice none 0 0, .slice none 0 0, .slice none 0 0, .slice none 0 0, .int .i64 0, .slice none 0 0, .slice none 0 0, .slice none 0 0], .slice none 0 0] 8 rfl (World.shaped_of_RefB kR kR) kR kR kR (t8 os _)) rfl rfl rfl Tryz.underlying4
  (λds h=>by
   match ds,h with
   |[d0,d1],_=>rfl) nr kR (λW base args ds p hX hval hA _=>se W base args ds p (pC hX) hval hA)
theorem wo:Tryz.prog.inPlace 6=Rows.textBackRow.inPlace:=by kernel_rfl
theorem wn:Tryz.prog.unfollowed 6=Rows.textBackRow.unfollowed:=by kernel_rfl
theorem wm:Tryz.prog.recurses 6=Rows.textBackRow.recurses:=by kernel_rfl
theorem wk:Tryz.prog.varsNamed 6=Rows.textBackRow.named:=by kernel_rfl
theorem yj:joinedFacts Tryz.pinned.checked.prog 6 Tryz.f6 Rows.textBackSpec Rows.textBackRow=true:=by unfold joinedFacts;rw[show Tryz.pinned.checked.prog.inPlace 6=_ from wo,show Tryz.pinned.checked.prog.unfollowed 6=_ from wn,show Tryz.pinned.checked.prog.recurses 6=_ from wm,show Tryz.pinned.checked.prog.varsNamed 6=_ from wk];kernel_rfl
theorem uj:Rows.TextBackSaid:=
 OpenClaim.holds_of_wide 6 Tryz.f6 rfl rfl rfl rfl rfl rfl rfl ⟨rfl,rfl,rfl,rfl,rfl⟩ rfl rfl rfl rfl rfl kR Tryz.func6 yj
  (of_decide_eq_true kR) (by unfold Func.isWrapper;first|(rw[if_pos (by decide+kernel)];kernel_rfl)|(rw[if_neg (by decide+kernel)];exact⟨rfl,rfl⟩))
  (λos started H enc _=>oR os started H enc)
theorem back_holds:Rows.TextBackCardSaid:=
 Claim7.holds_tied_plain_at .later [] [.listed, .data, .widerDeep] true (true, "526d030c42a6d91ba516f7b8a0b699c1f497b54958480b9a8c28503da73e808f") false
  uj (λ_ h=>by cases h) kR (λ_ h=>by cases h) textBack_row_tie rfl ⟨rfl,rfl⟩ kR rfl
  (λf fn hf hfn=>by
   obtain rfl:f=6:=inS ((show Tryz.prog.funcNamed "ceiling/ceilinglaw23.TextBack"=some 6 by kernel_rfl).symm.trans hf)|>.symm
   obtain rfl:fn=Tryz.f6:=(inS (Tryz.func6.symm.trans hfn)).symm;exact⟨by kernel_rfl,λj t ht=>by
    rw[Tryz.params6] at ht;have hm:t∈[33,42]:=by have:=Array.mem_of_getElem? ht;simp only[List.mem_toArray,List.mem_cons,List.not_mem_nil,or_false] at this;rcases this with rfl|rfl<;>simp
    have hall:([33,42].all λu=> !Tryz.prog.wantsStandIn u)=true:=by kernel_rfl
    exact(show Tryz.prog.wantsStandIn t=false by simpa using List.all_eq_true.1 hall t hm)⟩)
  kR
end Go.Proofs.YtejcfgjpdocaoaaGreatDoor
