/- TextAt: for every text, address and number: the call returns true and leaves its arguments as they were. No condition but the card's own: the listed variables hold what the program's text lays. -/
import Derived.SevenTiedAt
import Derived.Test.YtejcfgjpdocaoaaGreatDoorCards
import Derived.Test.YtejcfgjpdocaoaaGreatDoorTie
import Derived.Test.YtejcfgjpdocaoaaGreatDoorVat
import Derived.Test.YtejcfgjpdocaoaaGreatDoorR
set_option linter.unusedVariables false
set_option linter.unusedSimpArgs false
set_option linter.unusedSectionVars false
set_option linter.unnecessarySimpa false
set_option maxRecDepth 100000
namespace Go.Proofs.YtejcfgjpdocaoaaGreatDoor
open Go Go.Sk
open Go.ChangeShapes Go.WideShapes Go.ChangeAt Go.RowKit
theorem rh{H:Type}{enc:TypeId×Value→H}(W:World)(base:Nat)(args:Array Value)(ds:List (DataW H))(p:List MemPlace)(hX:Gl (aC W) W)(hval:∀(j:Nat) t v,Tryz.f4.params[j]? =some t→args[j]? =some v→Value.okWide Tryz.prog W .any base t v)(hA:DataW.TrodAll enc Tryz.prog W 0 (λ_=>true) true Tryz.f4.params.toList args.toList ds p):Calls Tryz.prog 4 args W λe W'=>e= .returned (.bool true)∧Go.RowKit.Below W.heap.size W W':=by
 rw[Tryz.params4] at hA hval
 obtain⟨args⟩:=args
 simp only at hA
 obtain⟨v0,vs0,d0,ds0,p0,q0,rfl,rfl,t0,hA0⟩:=dn hA
 obtain⟨v1,vs1,d1,ds1,p1,q1,rfl,rfl,t1,hA1⟩:=dn hA0
 obtain⟨v2,vs2,d2,ds2,p2,q2,rfl,rfl,t2,hA2⟩:=dn hA1
 obtain rfl:=jL hA2
 obtain⟨x0,r0,g0⟩:=gn (λfuel=>(rd33 fuel)) t0
 obtain⟨c0,rfl⟩:=mz Tryz.underlying33 (hval 0 33 v0 rfl rfl)
 have a0:=sb r0
 obtain⟨x1,r1,g1⟩:=gn (λfuel=>(ao Tryz.underlying3 fuel)) t1
 have a1:=oS r1 (m6 Tryz.underlying3 (hval 1 3 v1 rfl rfl))
 obtain⟨x2,r2,g2⟩:=gn (λfuel=>(ao Tryz.underlying2 fuel)) t2
 have a2:=oS r2 (m6 Tryz.underlying2 (hval 2 2 v2 rfl rfl))
 exact ln hX (f4_c x0 x1 x2 (sm x0 g0.1 g0.2 g0.3 x1 x2)) (by exact(aW (by simpa[RA] using a0) (aW (by simpa[RA] using a1) (aW (by simpa[RA] using a2) bE))))
theorem om(os:Os)(started:os.Started)(H:Type)(enc:TypeId×Value→H):
  ReturnsInHanded {} Tryz.checked os 4 .any (λw args=>(Rows.textAtSpec.pre enc Tryz.prog Tryz.f4 [] false w args∧laidMetH Tryz.prog kZ w)∧sizedMet enc Tryz.prog Tryz.f4 (OpenSpec.ofChange Rows.textAtSpec) false w args) (Rows.textAtSpec.post enc Tryz.prog Tryz.f4 false true false false):=
 jU (C:=Tryz.checked) 3 (λw=>laidMetH Tryz.prog kZ w) (λ_ _ hh h=>h.of_heap hh) Tryz.own started kR Tryz.func4
  (ChangeSpec.witness_shaped (enc:=enc) (C:=Tryz.checked) (os:=os) (X:=λw _=>laidMetH Tryz.prog kZ w) false (World.doorLaid Tryz.prog 400 os) #[.agg #[.slice none 0 0, .slice none 0 0, .slice none 0 0, .slice none 0 0, .slice none 0 0, .slice none 0 0, .slice none 0 0, .int .i64 0, .slice none 0 0, .slice none 0 0, .slice none 0 0], .int .i64 0, .int .i64 0] 8 rfl (World.shaped_of_RefB kR kR) kR kR kR (pI os _)) rfl rfl rfl Tryz.underlying4
  (λds h=>by
   match ds,h with
   |[d0,d1,d2],_=>rfl) km kR (λW base args ds p hX hval hA _=>rh W base args ds p (mn hX) hval hA)
theorem sV:Rows.TextAtSaid:=
 OpenClaim.holds_of_wide 4 Tryz.f4 rfl rfl rfl rfl rfl rfl rfl ⟨rfl,rfl,rfl,rfl,rfl⟩ rfl rfl rfl rfl rfl kR Tryz.func4 kR
  (of_decide_eq_true kR) (by unfold Func.isWrapper;first|(rw[if_pos (by decide+kernel)];kernel_rfl)|(rw[if_neg (by decide+kernel)];exact⟨rfl,rfl⟩))
  (λos started H enc _=>om os started H enc)
theorem at_holds:Rows.TextAtCardSaid:=
 Claim7.holds_tied_plain_at .later [] [.listed, .data, .widerDeep] true (true, "526d030c42a6d91ba516f7b8a0b699c1f497b54958480b9a8c28503da73e808f") false
  sV (λ_ h=>by cases h) kR (λ_ h=>by cases h) textAt_row_tie rfl ⟨rfl,rfl⟩ kR rfl
  (λf fn hf hfn=>by
   obtain rfl:f=4:=inS ((show Tryz.prog.funcNamed "ceiling/ceilinglaw23.TextAt"=some 4 by kernel_rfl).symm.trans hf)|>.symm
   obtain rfl:fn=Tryz.f4:=(inS (Tryz.func4.symm.trans hfn)).symm
   exact⟨by kernel_rfl,λj t ht=>by
    rw[Tryz.params4] at ht
    have hm:t∈[33,3,2]:=by
     have:=Array.mem_of_getElem? ht
     simp only[List.mem_toArray,List.mem_cons,List.not_mem_nil,or_false] at this
     rcases this with rfl|rfl|rfl<;>simp
    have hall:([33,3,2].all λu=> !Tryz.prog.wantsStandIn u)=true:=by kernel_rfl
    exact(show Tryz.prog.wantsStandIn t=false by simpa using List.all_eq_true.1 hall t hm)⟩)
  kR
end Go.Proofs.YtejcfgjpdocaoaaGreatDoor
