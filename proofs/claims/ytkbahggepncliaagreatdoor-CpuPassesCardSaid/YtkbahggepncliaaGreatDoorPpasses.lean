/- CpuPasses: for every text, input, address and number of steps: the call returns true and leaves its arguments as they were. No condition but the card's own: the listed variables hold what the program's text lays. -/
import Derived.SevenTiedAt
import Derived.Test.YtkbahggepncliaaGreatDoorCards
import Derived.Test.YtkbahggepncliaaGreatDoorTie
import Derived.Test.YtkbahggepncliaaGreatDoorWb
import Derived.Test.YtkbahggepncliaaGreatDoorR
set_option linter.unusedVariables false
set_option linter.unusedSimpArgs false
set_option linter.unusedSectionVars false
set_option linter.unnecessarySimpa false
set_option maxRecDepth 100000
namespace Go.Proofs.YtkbahggepncliaaGreatDoor
open Go Go.Sk
open Go.ChangeShapes Go.WideShapes Go.ChangeAt Go.RowKit
theorem passes_walk {H : Type} {enc : TypeId × Value → H} (W : World) (base : Nat) (args : Array Value) (ds : List (DataW H)) (p : List MemPlace) (hX : Gl (allCells W) W) (hval : ∀ (j : Nat) t v, Tryz.f4.params[j]? = some t → args[j]? = some v → Value.okWide Tryz.prog W .any base t v) (hA : DataW.TrodAll enc Tryz.prog W 0 (fun _ => true) true Tryz.f4.params.toList args.toList ds p) : Calls Tryz.prog 4 args W fun e W' => e = .returned (.bool true) ∧ Go.RowKit.Below W.heap.size W W' := by
  rw [Tryz.params4] at hA hval
  obtain ⟨args⟩ := args
  simp only at hA
  obtain ⟨v0, vs0, d0, ds0, p0, q0, rfl, rfl, t0, hA0⟩ := trodAll_cons' hA
  obtain ⟨v1, vs1, d1, ds1, p1, q1, rfl, rfl, t1, hA1⟩ := trodAll_cons' hA0
  obtain ⟨v2, vs2, d2, ds2, p2, q2, rfl, rfl, t2, hA2⟩ := trodAll_cons' hA1
  obtain ⟨v3, vs3, d3, ds3, p3, q3, rfl, rfl, t3, hA3⟩ := trodAll_cons' hA2
  obtain rfl := trodAll_nil' hA3
  obtain ⟨x0, r0, g0⟩ := reads_arg (fun fuel => (rd38 fuel)) t0
  obtain ⟨c0, rfl⟩ := agg_struct Tryz.underlying38 (hval 0 38 v0 rfl rfl)
  have a0 := ra_agg r0
  obtain ⟨x1, r1, g1⟩ := reads_arg (fun fuel => (reads_sliceF Tryz.underlying42 cs2 (by decide) el2 (fun f hf => rd2 f))) t1
  have a1 := ra_one r1 (one_slice Tryz.underlying42 (hval 1 42 v1 rfl rfl))
  obtain ⟨x2, r2, g2⟩ := reads_arg (fun fuel => (reads_int Tryz.underlying3 fuel)) t2
  have a2 := ra_one r2 (one_int Tryz.underlying3 (hval 2 3 v2 rfl rfl))
  obtain ⟨x3, r3, g3⟩ := reads_arg (fun fuel => (reads_int Tryz.underlying54 fuel)) t3
  have a3 := ra_one r3 (one_int Tryz.underlying54 (hval 3 54 v3 rfl rfl))
  exact calls_of_pu hX (f4_c x0 x1 x2 x3 (law_passes x0 x1 x2 x3 g0 (by have h : (0 : Int) ≤ x3 := g3.1; omega))) (by exact (RAs_cons (by simpa [RA] using a0) (RAs_cons (by simpa [RA] using a1) (RAs_cons (by simpa [RA] using a2) (RAs_cons (by simpa [RA] using a3) RAs_nil)))))
theorem passes_lifted (os : Os) (started : os.Started) (H : Type) (enc : TypeId × Value → H) :
    ReturnsInHanded {} Tryz.checked os 4 .any (fun w args => (Rows.cpuPassesSpec.pre enc Tryz.prog Tryz.f4 [] false w args ∧ laidMetH Tryz.prog laidT w) ∧ sizedMet enc Tryz.prog Tryz.f4 (OpenSpec.ofChange Rows.cpuPassesSpec) false w args) (Rows.cpuPassesSpec.post enc Tryz.prog Tryz.f4 false true false false) :=
  law_lifted_x (C := Tryz.checked) 4 (fun w => laidMetH Tryz.prog laidT w) (fun _ _ hh h => h.of_heap hh) Tryz.own started (by kernel_rfl) Tryz.func4
    (ChangeSpec.witness_shaped (enc := enc) (C := Tryz.checked) (os := os) (X := fun w _ => laidMetH Tryz.prog laidT w) false (World.doorLaid Tryz.prog 400 os) #[.agg #[.slice none 0 0, .slice none 0 0, .slice none 0 0, .slice none 0 0, .slice none 0 0, .slice none 0 0, .slice none 0 0, .int .i64 0, .slice none 0 0, .slice none 0 0, .slice none 0 0], .slice none 0 0, .int .i64 0, .int .u16 0] 8 rfl (World.shaped_of_RefB (by kernel_rfl) (by kernel_rfl)) (by kernel_rfl) (by kernel_rfl) (by kernel_rfl) (door_met os _)) rfl rfl rfl Tryz.underlying4
    (fun ds h => by
      match ds, h with
      | [d0, d1, d2, d3], _ => rfl) Tryz.laidOut (by kernel_rfl) (fun W base args ds p hX hval hA _ => passes_walk W base args ds p (gl_of_laid hX) hval hA)
theorem passes_row : Rows.CpuPassesSaid :=
  OpenClaim.holds_of_wide 4 Tryz.f4 rfl rfl rfl rfl rfl rfl rfl ⟨rfl, rfl, rfl, rfl, rfl⟩ rfl rfl rfl rfl rfl (by kernel_rfl) Tryz.func4 (by kernel_rfl)
    (of_decide_eq_true (by kernel_rfl)) (by unfold Func.isWrapper; first | (rw [if_pos (by decide +kernel)]; kernel_rfl) | (rw [if_neg (by decide +kernel)]; exact ⟨rfl, rfl⟩))
    (fun os started H enc _ => passes_lifted os started H enc)
theorem passes_holds : Rows.CpuPassesCardSaid :=
  Claim7.holds_tied_plain_at .later [] [.listed, .data, .widerDeep] true (true, "23d74111835e41e2a2a2670fca69a44dc62c335d2117a5dc05f6498d2428bb8b") true
    passes_row (fun _ h => by cases h) (by kernel_rfl) (fun _ h => by cases h) cpuPasses_row_tie rfl ⟨rfl, rfl⟩ (by kernel_rfl) rfl
    (fun f fn hf hfn => by
      obtain rfl : f = 4 := Option.some.inj ((show Tryz.prog.funcNamed "ceiling/ceilinglaw28.CpuPasses" = some 4 by kernel_rfl).symm.trans hf) |>.symm
      obtain rfl : fn = Tryz.f4 := (Option.some.inj (Tryz.func4.symm.trans hfn)).symm
      exact ⟨by kernel_rfl, fun j t ht => by
        rw [Tryz.params4] at ht
        have hm : t ∈ [38, 42, 3, 54] := by
          have := Array.mem_of_getElem? ht
          simp only [List.mem_toArray, List.mem_cons, List.not_mem_nil, or_false] at this
          rcases this with rfl | rfl | rfl | rfl <;> simp
        have hall : ([38, 42, 3, 54].all fun u => !Tryz.prog.wantsStandIn u) = true := by kernel_rfl
        exact (show Tryz.prog.wantsStandIn t = false by simpa using List.all_eq_true.1 hall t hm)⟩)
    (by kernel_rfl)
end Go.Proofs.YtkbahggepncliaaGreatDoor
