/- EvalReads: for every store, counts, expression, number and list: the call returns true and leaves its arguments as they were. No condition. -/
import Derived.Test.YtjjgmpmhfodmeaaR
set_option maxRecDepth 100000
namespace Go.Proofs.Ytjjgmpmhfodmeaa
open Go Go.Sk
open Go.ChangeShapes Go.WideShapes Go.ChangeAt Go.RowKit
theorem cs5 : Try.prog.cellsOf 5 = 1 := by kernel_rfl
theorem reads_walk {H : Type} {enc : TypeId × Value → H} (W : World) (base : Nat) (args : Array Value) (ds : List (DataW H)) (p : List MemPlace) (hval : ∀ (j : Nat) t v, Try.f10.params[j]? = some t → args[j]? = some v → Value.okWide Try.prog W .any base t v) (hA : DataW.TrodAll enc Try.prog W 0 (fun _ => true) true Try.f10.params.toList args.toList ds p) : Calls Try.prog 10 args W fun e W' => e = .returned (.bool true) ∧ Go.RowKit.Below W.heap.size W W' := by
  rw [Try.params10] at hA hval
  obtain ⟨args⟩ := args
  simp only at hA
  obtain ⟨v0, vs0, d0, ds0, p0, q0, rfl, rfl, t0, hA0⟩ := trodAll_cons' hA
  obtain ⟨v1, vs1, d1, ds1, p1, q1, rfl, rfl, t1, hA1⟩ := trodAll_cons' hA0
  obtain ⟨v2, vs2, d2, ds2, p2, q2, rfl, rfl, t2, hA2⟩ := trodAll_cons' hA1
  obtain ⟨v3, vs3, d3, ds3, p3, q3, rfl, rfl, t3, hA3⟩ := trodAll_cons' hA2
  obtain ⟨v4, vs4, d4, ds4, p4, q4, rfl, rfl, t4, hA4⟩ := trodAll_cons' hA3
  obtain rfl := trodAll_nil' hA4
  obtain ⟨x0, r0, g0⟩ := reads_arg (fun fuel => (reads_sliceF Try.underlying37 cs56 (by decide) el56 (fun f hf => rd56 f))) t0
  have a0 := ra_one r0 (one_slice Try.underlying37 (hval 0 37 v0 rfl rfl))
  obtain ⟨x1, r1, g1⟩ := reads_arg (fun fuel => (reads_sliceF Try.underlying33 cs3 (by decide) el3 (fun f hf => rd3 f))) t1
  have a1 := ra_one r1 (one_slice Try.underlying33 (hval 1 33 v1 rfl rfl))
  obtain ⟨x2, r2, g2⟩ := reads_arg (fun fuel => (rd26 fuel)) t2
  obtain ⟨c2, rfl⟩ := agg_struct Try.underlying26 (hval 2 26 v2 rfl rfl)
  rw [E26_eq] at r2
  have a2 := ra_agg r2
  obtain ⟨x3, r3, g3⟩ := reads_arg (fun fuel => (reads_int Try.underlying5 fuel)) t3
  have a3 := ra_one r3 (one_int Try.underlying5 (hval 3 5 v3 rfl rfl))
  obtain ⟨x4, r4, g4⟩ := reads_arg (fun fuel => (reads_sliceF Try.underlying56 cs2 (by decide) el2 (fun f hf => rd2 f))) t4
  have a4 := ra_one r4 (one_slice Try.underlying56 (hval 4 56 v4 rfl rfl))
  exact calls_of_pu (fun g ps h => by cases h) (f10_c x0 x1 x2 x3 x4 (law10 x0 x1 g2 ⟨g3.1, g3.2⟩ x4)) (by exact (RAs_cons (by simpa [RA] using a0) (RAs_cons (by simpa [RA] using a1) (RAs_cons (by simpa [RA] using a2) (RAs_cons (by simpa [RA] using a3) (RAs_cons (by simpa [RA] using a4) RAs_nil))))))
theorem reads_lifted (os : Os) (started : os.Started) (H : Type) (enc : TypeId × Value → H) :
    ReturnsInHanded {} Try.checked os 10 .any (Rows.evalReadsSpec.pre6 enc Try.prog Try.f10 Rows.evalReadsRow.domain false) (Rows.evalReadsSpec.post enc Try.prog Try.f10 false true false false) :=
  law_lifted (C := Try.checked) 5 Try.own started (by kernel_rfl) Try.func10
    (ChangeSpec.witness6 (enc := enc) (C := Try.checked) false ⟨#[], #[.slice none 0 0, .slice none 0 0, .agg #[.int .u8 0, .int .u8 0, .int .i64 0, .int .i64 0, .int .i64 0, .int .i64 0, .int .i64 0, .int .i64 0, .slice none 0 0], .int .u8 0, .slice none 0 0], []⟩ 8 (by kernel_rfl) (by kernel_rfl) (by kernel_rfl) (by kernel_rfl)) rfl rfl rfl Try.underlying4
    (fun ds h => by
      match ds, h with
      | [d0, d1, d2, d3, d4], _ => rfl) Try.laidOut (by kernel_rfl) (fun W base args ds p hval hA _ => reads_walk W base args ds p hval hA)
theorem reads_holds : Rows.EvalReadsSaid :=
  OpenClaim.holds_of_wide 10 Try.f10 rfl rfl rfl rfl rfl rfl rfl ⟨rfl, rfl, rfl, rfl, rfl⟩ rfl rfl rfl rfl rfl (by kernel_rfl) Try.func10 (by kernel_rfl)
    (of_decide_eq_true (by kernel_rfl)) (by unfold Func.isWrapper; first | (rw [if_pos (by decide +kernel)]; kernel_rfl) | (rw [if_neg (by decide +kernel)]; exact ⟨rfl, rfl⟩))
    (fun os started H enc _ => reads_lifted os started H enc)
end Go.Proofs.Ytjjgmpmhfodmeaa
