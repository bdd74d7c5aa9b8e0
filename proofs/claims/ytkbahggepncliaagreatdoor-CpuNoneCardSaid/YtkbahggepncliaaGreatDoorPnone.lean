/- CpuNone: for all registers,numbers and values: the call returns true and leaves its arguments as they were. No condition but the card's own: the listed variables hold what the program's text lays. -/
import Derived.SevenTiedAt
import Derived.Test.YtkbahggepncliaaGreatDoorCards
import Derived.Test.YtkbahggepncliaaGreatDoorTie
import Derived.Test.YtkbahggepncliaaGreatDoorWc
import Derived.Test.YtkbahggepncliaaGreatDoorR
set_option linter.unusedVariables false
set_option linter.unusedSimpArgs false
set_option linter.unusedSectionVars false
set_option linter.unnecessarySimpa false
set_option maxRecDepth 100000
namespace Go.Proofs.YtkbahggepncliaaGreatDoor
open Go Go.Sk
open Go.ChangeShapes Go.WideShapes Go.ChangeAt Go.RowKit
theorem none_walk {H : Type} {enc : TypeId × Value → H} (W : World) (base : Nat) (args : Array Value) (ds : List (DataW H)) (p : List MemPlace) (hX : Gl (allCells W) W) (hval : ∀ (j : Nat) t v,Tryz.f7.params[j]? = some t → args[j]? = some v → Value.okWide Tryz.prog W .any base t v) (hA : DataW.TrodAll enc Tryz.prog W 0 (fun _ => true) true Tryz.f7.params.toList args.toList ds p) : Calls Tryz.prog 7 args W fun e W' => e = .returned (.bool true) ∧ Go.RowKit.Below W.heap.size W W':=by
  rw [Tryz.params7] at hA hval
  obtain ⟨args⟩:=args
  simp only at hA
  obtain ⟨v0,vs0,d0,ds0,p0,q0,rfl,rfl,t0,hA0⟩:=trodAll_cons' hA
  obtain ⟨v1,vs1,d1,ds1,p1,q1,rfl,rfl,t1,hA1⟩:=trodAll_cons' hA0
  obtain ⟨v2,vs2,d2,ds2,p2,q2,rfl,rfl,t2,hA2⟩:=trodAll_cons' hA1
  obtain ⟨v3,vs3,d3,ds3,p3,q3,rfl,rfl,t3,hA3⟩:=trodAll_cons' hA2
  obtain rfl:=trodAll_nil' hA3
  obtain ⟨x0,r0,g0⟩:=reads_arg (fun fuel => (rd41 fuel)) t0
  obtain ⟨c0,rfl⟩:=agg_struct Tryz.underlying41 (hval 0 41 v0 rfl rfl)
  have a0:=ra_agg r0
  obtain ⟨x1,r1,g1⟩:=reads_arg (fun fuel => (reads_int Tryz.underlying3 fuel)) t1
  have a1:=ra_one r1 (one_int Tryz.underlying3 (hval 1 3 v1 rfl rfl))
  obtain ⟨x2,r2,g2⟩:=reads_arg (fun fuel => (reads_int Tryz.underlying3 fuel)) t2
  have a2:=ra_one r2 (one_int Tryz.underlying3 (hval 2 3 v2 rfl rfl))
  obtain ⟨x3,r3,g3⟩:=reads_arg (fun fuel => (reads_int Tryz.underlying2 fuel)) t3
  have a3:=ra_one r3 (one_int Tryz.underlying2 (hval 3 2 v3 rfl rfl))
  exact calls_of_pu hX (f7_c x0 x1 x2 x3 (law_none x0 x1 x2 x3)) (by exact (RAs_cons (by simpa [RA] using a0) (RAs_cons (by simpa [RA] using a1) (RAs_cons (by simpa [RA] using a2) (RAs_cons (by simpa [RA] using a3) RAs_nil)))))
theorem none_lifted (os : Os) (started : os.Started) (H : Type) (enc : TypeId × Value → H) :
    ReturnsInHanded {} Tryz.checked os 7 .any (fun w args => (Rows.cpuNoneSpec.pre enc Tryz.prog Tryz.f7 [] false w args ∧ laidMetH Tryz.prog laidT w) ∧ sizedMet enc Tryz.prog Tryz.f7 (OpenSpec.ofChange Rows.cpuNoneSpec) false w args) (Rows.cpuNoneSpec.post enc Tryz.prog Tryz.f7 false true false false) :=
  law_lifted_x (C:=Tryz.checked) 4 (fun w => laidMetH Tryz.prog laidT w) (fun _ _ hh h => h.of_heap hh) Tryz.own started (by kernel_rfl) Tryz.func7
    (ChangeSpec.witness_shaped (enc:=enc) (C:=Tryz.checked) (os:=os) (X:=fun w _ => laidMetH Tryz.prog laidT w) false (World.doorLaid Tryz.prog 400 os) #[.agg #[.int .i64 0,.int .i64 0,.int .i64 0,.int .i64 0,.int .i64 0,.int .i64 0,.int .i64 0,.int .i64 0,.int .i64 0,.int .i64 0,.int .i64 0,.int .i64 0,.int .i64 0,.int .i64 0,.int .i64 0,.int .i64 0,.int .i64 0,.int .i64 0,.int .i64 0],.int .i64 0,.int .i64 0,.int .i64 0] 8 rfl (World.shaped_of_RefB (by kernel_rfl) (by kernel_rfl)) (by kernel_rfl) (by kernel_rfl) (by kernel_rfl) (door_met os _)) rfl rfl rfl Tryz.underlying4
    (fun ds h => by
      match ds,h with
      | [d0,d1,d2,d3],_ => rfl) Tryz.laidOut (by kernel_rfl) (fun W base args ds p hX hval hA _ => none_walk W base args ds p (gl_of_laid hX) hval hA)
theorem none_row : Rows.CpuNoneSaid :=
  OpenClaim.holds_of_wide 7 Tryz.f7 rfl rfl rfl rfl rfl rfl rfl ⟨rfl,rfl,rfl,rfl,rfl⟩ rfl rfl rfl rfl rfl (by kernel_rfl) Tryz.func7 (by kernel_rfl)
    (of_decide_eq_true (by kernel_rfl)) (by unfold Func.isWrapper; first | (rw [if_pos (by decide +kernel)]; kernel_rfl) | (rw [if_neg (by decide +kernel)]; exact ⟨rfl,rfl⟩))
    (fun os started H enc _ => none_lifted os started H enc)
theorem none_holds : Rows.CpuNoneCardSaid :=
  Claim7.holds_tied_plain_at .later [] [.listed,.data,.widerDeep] true (true,"23d74111835e41e2a2a2670fca69a44dc62c335d2117a5dc05f6498d2428bb8b") true
    none_row (fun _ h => by cases h) (by kernel_rfl) (fun _ h => by cases h) cpuNone_row_tie rfl ⟨rfl,rfl⟩ (by kernel_rfl) rfl
    (fun f fn hf hfn => by
      obtain rfl : f = 7:=Option.some.inj ((show Tryz.prog.funcNamed "ceiling/ceilinglaw28.CpuNone" = some 7 by kernel_rfl).symm.trans hf) |>.symm
      obtain rfl : fn = Tryz.f7:=(Option.some.inj (Tryz.func7.symm.trans hfn)).symm
      exact ⟨by kernel_rfl,fun j t ht => by
        rw [Tryz.params7] at ht
        have hm : t ∈ [41,3,2]:=by
          have:=Array.mem_of_getElem? ht
          simp only [List.mem_toArray,List.mem_cons,List.not_mem_nil,or_false] at this
          rcases this with rfl | rfl | rfl | rfl <;> simp
        have hall : ([41,3,2].all fun u => !Tryz.prog.wantsStandIn u) = true:=by kernel_rfl
        exact (show Tryz.prog.wantsStandIn t = false by simpa using List.all_eq_true.1 hall t hm)⟩)
    (by kernel_rfl)
end Go.Proofs.YtkbahggepncliaaGreatDoor
