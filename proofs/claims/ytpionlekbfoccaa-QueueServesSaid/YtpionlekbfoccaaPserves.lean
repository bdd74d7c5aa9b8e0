/- QueueServes: for every list of priorities: the call returns true and leaves its arguments as they were. No condition. -/
import Derived.Test.YtpionlekbfoccaaWc
import Derived.Test.YtpionlekbfoccaaR
import Derived.Test.YtpionlekbfoccaaLserves
set_option maxRecDepth 100000
namespace Go.Proofs.Ytpionlekbfoccaa
open Go Go.Sk
open Go.ChangeShapes Go.WideShapes Go.ChangeAt Go.RowKit
theorem cs5 : Try.prog.cellsOf 5 = 1 := by kernel_rfl
theorem el5 : ∀ x, (E5 x).length = 1 := fun _ => rfl
theorem rd5 {H : Type} {enc : TypeId × Value → H} {W : World} {spare : Nat → Bool} {held : Bool} (fuel : Nat) : Reads enc Try.prog W spare held fuel 5 E5 (fun n : Int => IntKind.u8.min ≤ n ∧ n ≤ IntKind.u8.max) := (reads_int Try.underlying5 fuel)
theorem serves_walk {H : Type} {enc : TypeId × Value → H} (W : World) (base : Nat) (args : Array Value) (ds : List (DataW H)) (p : List MemPlace) (hval : ∀ (j : Nat) t v, Try.f5.params[j]? = some t → args[j]? = some v → Value.okWide Try.prog W .any base t v) (hA : DataW.TrodAll enc Try.prog W 0 (fun _ => true) true Try.f5.params.toList args.toList ds p) : Calls Try.prog 5 args W fun e W' => e = .returned (.bool true) ∧ Go.RowKit.Below W.heap.size W W' := by
  rw [Try.params5] at hA hval
  obtain ⟨args⟩ := args
  simp only at hA
  obtain ⟨v0, vs0, d0, ds0, p0, q0, rfl, rfl, t0, hA0⟩ := trodAll_cons' hA
  obtain rfl := trodAll_nil' hA0
  obtain ⟨x0, r0, g0⟩ := reads_arg (fun fuel => (reads_sliceF Try.underlying48 cs5 (by decide) el5 (fun f hf => rd5 f))) t0
  have a0 := ra_one r0 (one_slice Try.underlying48 (hval 0 48 v0 rfl rfl))
  exact calls_of_pu (fun g ps h => by cases h) (f5_c x0 (law5 x0 (ltm g0.2))) (by exact (RAs_cons (by simpa [RA] using a0) RAs_nil))
theorem serves_lifted (os : Os) (started : os.Started) (H : Type) (enc : TypeId × Value → H) :
    ReturnsInHanded {} Try.checked os 5 .any (Rows.queueServesSpec.pre6 enc Try.prog Try.f5 Rows.queueServesRow.domain false) (Rows.queueServesSpec.post enc Try.prog Try.f5 false true false false) :=
  law_lifted (C := Try.checked) 1 Try.own started (by kernel_rfl) Try.func5
    (ChangeSpec.witness6 (enc := enc) (C := Try.checked) false ⟨#[], #[.slice none 0 0], []⟩ 8 (by kernel_rfl) (by kernel_rfl) (by kernel_rfl) (by kernel_rfl)) rfl rfl rfl Try.underlying4
    (fun ds h => by
      match ds, h with
      | [d0], _ => rfl) Try.laidOut (by kernel_rfl) (fun W base args ds p hval hA _ => serves_walk W base args ds p hval hA)
theorem serves_holds : Rows.QueueServesSaid :=
  OpenClaim.holds_of_wide 5 Try.f5 rfl rfl rfl rfl rfl rfl rfl ⟨rfl, rfl, rfl, rfl, rfl⟩ rfl rfl rfl rfl rfl (by kernel_rfl) Try.func5 (by kernel_rfl)
    (of_decide_eq_true (by kernel_rfl)) (by unfold Func.isWrapper; first | (rw [if_pos (by decide +kernel)]; kernel_rfl) | (rw [if_neg (by decide +kernel)]; exact ⟨rfl, rfl⟩))
    (fun os started H enc _ => serves_lifted os started H enc)
end Go.Proofs.Ytpionlekbfoccaa
