/- CpuSums: for all first registers and instructions: the call returns true and leaves its arguments as they were. No condition but the card's own: the listed variables hold what the program's text lays. -/
import Derived.SevenTiedAt
import Derived.Test.YtkbahggepncliaaGreatDoorCards
import Derived.Test.YtkbahggepncliaaGreatDoorTie
import Derived.Test.YtkbahggepncliaaGreatDoorWc
import Derived.Test.YtkbahggepncliaaGreatDoorR
set_option linter.unusedVariables false
set_option linter.unusedSimpArgs false
set_option linter.unusedSectionVars false
set_option linter.unnecessarySimpa false
set_option maxRecDepth 100000
namespace Go.Proofs.YtkbahggepncliaaGreatDoor
open Go Go.Sk
open Go.ChangeShapes Go.WideShapes Go.ChangeAt Go.RowKit
theorem sums_walk {H : Type} {enc : TypeId × Value → H} (W : World) (base : Nat) (args : Array Value) (ds : List (DataW H)) (p : List MemPlace) (hX : Gl (allCells W) W) (hval : ∀ (j : Nat) t v, Tryz.f3.params[j]? = some t → args[j]? = some v → Value.okWide Tryz.prog W .any base t v) (hA : DataW.TrodAll enc Tryz.prog W 0 (fun _ => true) true Tryz.f3.params.toList args.toList ds p) : Calls Tryz.prog 3 args W fun e W' => e = .returned (.bool true) ∧ Go.RowKit.Below W.heap.size W W' := by
  rw [Tryz.params3] at hA hval
  obtain ⟨args⟩ := args
  simp only at hA
  obtain ⟨v0, vs0, d0, ds0, p0, q0, rfl, rfl, t0, hA0⟩ := trodAll_cons' hA
  obtain ⟨v1, vs1, d1, ds1, p1, q1, rfl, rfl, t1, hA1⟩ := trodAll_cons' hA0
  obtain rfl := trodAll_nil' hA1
  obtain ⟨x0, r0, g0⟩ := reads_arg (fun fuel => (rd22 fuel)) t0
  obtain ⟨c0, rfl⟩ := agg_array Tryz.underlying22 (hval 0 22 v0 rfl rfl)
  have a0 := ra_agg r0
  obtain ⟨x1, r1, g1⟩ := reads_arg (fun fuel => (reads_sliceF Tryz.underlying23 cs45 (by decide) el45 (fun f hf => rd45 f))) t1
  have a1 := ra_one r1 (one_slice Tryz.underlying23 (hval 1 23 v1 rfl rfl))
  exact calls_of_pu hX (f3_c x0 x1 (law_sums x0 x1 g1.1)) (by exact (RAs_cons (by simpa [RA] using a0) (RAs_cons (by simpa [RA] using a1) RAs_nil)))
theorem sums_lifted (os : Os) (started : os.Started) (H : Type) (enc : TypeId × Value → H) :
    ReturnsInHanded {} Tryz.checked os 3 .any (fun w args => (Rows.cpuSumsSpec.pre enc Tryz.prog Tryz.f3 [] false w args ∧ laidMetH Tryz.prog laidT w) ∧ sizedMet enc Tryz.prog Tryz.f3 (OpenSpec.ofChange Rows.cpuSumsSpec) false w args) (Rows.cpuSumsSpec.post enc Tryz.prog Tryz.f3 false true false false) :=
  law_lifted_x (C := Tryz.checked) 2 (fun w => laidMetH Tryz.prog laidT w) (fun _ _ hh h => h.of_heap hh) Tryz.own started (by kernel_rfl) Tryz.func3
    (ChangeSpec.witness_shaped (enc := enc) (C := Tryz.checked) (os := os) (X := fun w _ => laidMetH Tryz.prog laidT w) false (World.doorLaid Tryz.prog 400 os) #[.agg #[.int .i64 0, .int .i64 0, .int .i64 0, .int .i64 0], .slice none 0 0] 8 rfl (World.shaped_of_RefB (by kernel_rfl) (by kernel_rfl)) (by kernel_rfl) (by kernel_rfl) (by kernel_rfl) (door_met os _)) rfl rfl rfl Tryz.underlying4
    (fun ds h => by
      match ds, h with
      | [d0, d1], _ => rfl) Tryz.laidOut (by kernel_rfl) (fun W base args ds p hX hval hA _ => sums_walk W base args ds p (gl_of_laid hX) hval hA)
theorem sums_row : Rows.CpuSumsSaid :=
  OpenClaim.holds_of_wide 3 Tryz.f3 rfl rfl rfl rfl rfl rfl rfl ⟨rfl, rfl, rfl, rfl, rfl⟩ rfl rfl rfl rfl rfl (by kernel_rfl) Tryz.func3 (by kernel_rfl)
    (of_decide_eq_true (by kernel_rfl)) (by unfold Func.isWrapper; first | (rw [if_pos (by decide +kernel)]; kernel_rfl) | (rw [if_neg (by decide +kernel)]; exact ⟨rfl, rfl⟩))
    (fun os started H enc _ => sums_lifted os started H enc)
theorem sums_holds : Rows.CpuSumsCardSaid :=
  Claim7.holds_tied_plain_at .later [] [.listed, .data, .widerDeep] true (true, "23d74111835e41e2a2a2670fca69a44dc62c335d2117a5dc05f6498d2428bb8b") true
    sums_row (fun _ h => by cases h) (by kernel_rfl) (fun _ h => by cases h) cpuSums_row_tie rfl ⟨rfl, rfl⟩ (by kernel_rfl) rfl
    (fun f fn hf hfn => by
      obtain rfl : f = 3 := Option.some.inj ((show Tryz.prog.funcNamed "ceiling/ceilinglaw28.CpuSums" = some 3 by kernel_rfl).symm.trans hf) |>.symm
      obtain rfl : fn = Tryz.f3 := (Option.some.inj (Tryz.func3.symm.trans hfn)).symm
      exact ⟨by kernel_rfl, fun j t ht => by
        rw [Tryz.params3] at ht
        have hm : t ∈ [22, 23] := by
          have := Array.mem_of_getElem? ht
          simp only [List.mem_toArray, List.mem_cons, List.not_mem_nil, or_false] at this
          rcases this with rfl | rfl <;> simp
        have hall : ([22, 23].all fun u => !Tryz.prog.wantsStandIn u) = true := by kernel_rfl
        exact (show Tryz.prog.wantsStandIn t = false by simpa using List.all_eq_true.1 hall t hm)⟩)
    (by kernel_rfl)
end Go.Proofs.YtkbahggepncliaaGreatDoor
