/- EvalElems: for every store, object, offset, length and index: the call returns true and leaves its arguments as they were. No condition. -/
import Derived.Test.YtjjgmpmhfodmeaaR
set_option maxRecDepth 100000
namespace Go.Proofs.Ytjjgmpmhfodmeaa
open Go Go.Sk
open Go.ChangeShapes Go.WideShapes Go.ChangeAt Go.RowKit
theorem elems_walk {H : Type} {enc : TypeId × Value → H} (W : World) (base : Nat) (args : Array Value) (ds : List (DataW H)) (p : List MemPlace) (hval : ∀ (j : Nat) t v, Try.f9.params[j]? = some t → args[j]? = some v → Value.okWide Try.prog W .any base t v) (hA : DataW.TrodAll enc Try.prog W 0 (fun _ => true) true Try.f9.params.toList args.toList ds p) : Calls Try.prog 9 args W fun e W' => e = .returned (.bool true) ∧ Go.RowKit.Below W.heap.size W W' := by
  rw [Try.params9] at hA hval
  obtain ⟨args⟩ := args
  simp only at hA
  obtain ⟨v0, vs0, d0, ds0, p0, q0, rfl, rfl, t0, hA0⟩ := trodAll_cons' hA
  obtain ⟨v1, vs1, d1, ds1, p1, q1, rfl, rfl, t1, hA1⟩ := trodAll_cons' hA0
  obtain ⟨v2, vs2, d2, ds2, p2, q2, rfl, rfl, t2, hA2⟩ := trodAll_cons' hA1
  obtain ⟨v3, vs3, d3, ds3, p3, q3, rfl, rfl, t3, hA3⟩ := trodAll_cons' hA2
  obtain ⟨v4, vs4, d4, ds4, p4, q4, rfl, rfl, t4, hA4⟩ := trodAll_cons' hA3
  obtain rfl := trodAll_nil' hA4
  obtain ⟨x0, r0, g0⟩ := reads_arg (fun fuel => (reads_sliceF Try.underlying37 cs56 (by decide) el56 (fun f hf => rd56 f))) t0
  have a0 := ra_one r0 (one_slice Try.underlying37 (hval 0 37 v0 rfl rfl))
  obtain ⟨x1, r1, g1⟩ := reads_arg (fun fuel => (reads_int Try.underlying3 fuel)) t1
  have a1 := ra_one r1 (one_int Try.underlying3 (hval 1 3 v1 rfl rfl))
  obtain ⟨x2, r2, g2⟩ := reads_arg (fun fuel => (reads_int Try.underlying3 fuel)) t2
  have a2 := ra_one r2 (one_int Try.underlying3 (hval 2 3 v2 rfl rfl))
  obtain ⟨x3, r3, g3⟩ := reads_arg (fun fuel => (reads_int Try.underlying3 fuel)) t3
  have a3 := ra_one r3 (one_int Try.underlying3 (hval 3 3 v3 rfl rfl))
  obtain ⟨x4, r4, g4⟩ := reads_arg (fun fuel => (rd26 fuel)) t4
  obtain ⟨c4, rfl⟩ := agg_struct Try.underlying26 (hval 4 26 v4 rfl rfl)
  rw [E26_eq] at r4
  have a4 := ra_agg r4
  exact calls_of_pu (f9_c x0 x1 x2 x3 x4 (law9 x0 ⟨g1.1, g1.2⟩ ⟨g2.1, g2.2⟩ ⟨g3.1, g3.2⟩ g4)) (by exact (RAs_cons (by simpa [RA] using a0) (RAs_cons (by simpa [RA] using a1) (RAs_cons (by simpa [RA] using a2) (RAs_cons (by simpa [RA] using a3) (RAs_cons (by simpa [RA] using a4) RAs_nil))))))
theorem elems_lifted (os : Os) (started : os.Started) (H : Type) (enc : TypeId × Value → H) :
    ReturnsInHanded {} Try.checked os 9 .any (Rows.evalElemsSpec.pre6 enc Try.prog Try.f9 Rows.evalElemsRow.domain false) (Rows.evalElemsSpec.post enc Try.prog Try.f9 false true false false) :=
  law_lifted (C := Try.checked) 5 Try.own started (by kernel_rfl) Try.func9
    (ChangeSpec.witness6 (enc := enc) (C := Try.checked) false ⟨#[], #[.slice none 0 0, .int .i64 0, .int .i64 0, .int .i64 0, .agg #[.int .u8 0, .int .u8 0, .int .i64 0, .int .i64 0, .int .i64 0, .int .i64 0, .int .i64 0, .int .i64 0, .slice none 0 0]], []⟩ 8 (by kernel_rfl) (by kernel_rfl) (by kernel_rfl) (by kernel_rfl)) rfl rfl rfl Try.underlying4
    (fun ds h => by
      match ds, h with
      | [d0, d1, d2, d3, d4], _ => rfl) Try.laidOut (by kernel_rfl) (fun W base args ds p hval hA _ => elems_walk W base args ds p hval hA)
theorem elems_holds : Rows.EvalElemsSaid :=
  OpenClaim.holds_of_wide 9 Try.f9 rfl rfl rfl rfl rfl rfl rfl ⟨rfl, rfl, rfl, rfl, rfl⟩ rfl rfl rfl rfl rfl (by kernel_rfl) Try.func9 (by kernel_rfl)
    (of_decide_eq_true (by kernel_rfl)) (by unfold Func.isWrapper; first | (rw [if_pos (by decide +kernel)]; kernel_rfl) | (rw [if_neg (by decide +kernel)]; exact ⟨rfl, rfl⟩))
    (fun os started H enc _ => elems_lifted os started H enc)
end Go.Proofs.Ytjjgmpmhfodmeaa
