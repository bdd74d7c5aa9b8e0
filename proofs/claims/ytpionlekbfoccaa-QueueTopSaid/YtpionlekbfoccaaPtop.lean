/- QueueTop: for all queues and numbers: the call returns true and leaves its arguments as they were. No condition. -/
import Derived.Test.YtpionlekbfoccaaWc
import Derived.Test.YtpionlekbfoccaaR
import Derived.Test.YtpionlekbfoccaaLtop
set_option maxRecDepth 100000
namespace Go.Proofs.Ytpionlekbfoccaa
open Go Go.Sk
open Go.ChangeShapes Go.WideShapes Go.ChangeAt Go.RowKit
theorem top_walk {H : Type} {enc : TypeId × Value → H} (W : World) (base : Nat) (args : Array Value) (ds : List (DataW H)) (p : List MemPlace) (hval : ∀ (j : Nat) t v, Try.f3.params[j]? = some t → args[j]? = some v → Value.okWide Try.prog W .any base t v) (hA : DataW.TrodAll enc Try.prog W 0 (fun _ => true) true Try.f3.params.toList args.toList ds p) : Calls Try.prog 3 args W fun e W' => e = .returned (.bool true) ∧ Go.RowKit.Below W.heap.size W W' := by
  rw [Try.params3] at hA hval
  obtain ⟨args⟩ := args
  simp only at hA
  obtain ⟨v0, vs0, d0, ds0, p0, q0, rfl, rfl, t0, hA0⟩ := trodAll_cons' hA
  obtain ⟨v1, vs1, d1, ds1, p1, q1, rfl, rfl, t1, hA1⟩ := trodAll_cons' hA0
  obtain rfl := trodAll_nil' hA1
  obtain ⟨x0, r0, g0⟩ := reads_arg (fun fuel => (rd26 fuel)) t0
  obtain ⟨c0, rfl⟩ := agg_struct Try.underlying26 (hval 0 26 v0 rfl rfl)
  have a0 := ra_agg r0
  obtain ⟨x1, r1, g1⟩ := reads_arg (fun fuel => (reads_int Try.underlying3 fuel)) t1
  have a1 := ra_one r1 (one_int Try.underlying3 (hval 1 3 v1 rfl rfl))
  exact calls_of_pu (fun g ps h => by cases h) (f3_c x0 x1 (law3 x0 x1 g0)) (by exact (RAs_cons (by simpa [RA] using a0) (RAs_cons (by simpa [RA] using a1) RAs_nil)))
theorem top_lifted (os : Os) (started : os.Started) (H : Type) (enc : TypeId × Value → H) :
    ReturnsInHanded {} Try.checked os 3 .any (Rows.queueTopSpec.pre6 enc Try.prog Try.f3 Rows.queueTopRow.domain false) (Rows.queueTopSpec.post enc Try.prog Try.f3 false true false false) :=
  law_lifted (C := Try.checked) 2 Try.own started (by kernel_rfl) Try.func3
    (ChangeSpec.witness6 (enc := enc) (C := Try.checked) false ⟨#[], #[.agg #[.slice none 0 0, .slice none 0 0, .slice none 0 0, .slice none 0 0, .slice none 0 0, .slice none 0 0, .slice none 0 0, .slice none 0 0, .slice none 0 0, .slice none 0 0, .slice none 0 0, .slice none 0 0, .slice none 0 0, .slice none 0 0, .slice none 0 0, .slice none 0 0, .slice none 0 0, .slice none 0 0, .slice none 0 0, .slice none 0 0, .slice none 0 0, .slice none 0 0, .slice none 0 0, .slice none 0 0, .slice none 0 0, .slice none 0 0, .slice none 0 0, .slice none 0 0, .slice none 0 0, .slice none 0 0, .slice none 0 0, .slice none 0 0, .slice none 0 0, .int .i64 0], .int .i64 0], []⟩ 8 (by kernel_rfl) (by kernel_rfl) (by kernel_rfl) (by kernel_rfl)) rfl rfl rfl Try.underlying4
    (fun ds h => by
      match ds, h with
      | [d0, d1], _ => rfl) Try.laidOut (by kernel_rfl) (fun W base args ds p hval hA _ => top_walk W base args ds p hval hA)
theorem top_holds : Rows.QueueTopSaid :=
  OpenClaim.holds_of_wide 3 Try.f3 rfl rfl rfl rfl rfl rfl rfl ⟨rfl, rfl, rfl, rfl, rfl⟩ rfl rfl rfl rfl rfl (by kernel_rfl) Try.func3 (by kernel_rfl)
    (of_decide_eq_true (by kernel_rfl)) (by unfold Func.isWrapper; first | (rw [if_pos (by decide +kernel)]; kernel_rfl) | (rw [if_neg (by decide +kernel)]; exact ⟨rfl, rfl⟩))
    (fun os started H enc _ => top_lifted os started H enc)
end Go.Proofs.Ytpionlekbfoccaa
