/- QueueKeeps: for all queues and calls: the call returns true and leaves its arguments as they were. No condition. -/
import Derived.Test.YtpionlekbfoccaaWc
import Derived.Test.YtpionlekbfoccaaR
import Derived.Test.YtpionlekbfoccaaLkeeps
set_option maxRecDepth 100000
namespace Go.Proofs.Ytpionlekbfoccaa
open Go Go.Sk
open Go.ChangeShapes Go.WideShapes Go.ChangeAt Go.RowKit
theorem cs5 : Try.prog.cellsOf 5 = 1 := by kernel_rfl
theorem cs52 : Try.prog.cellsOf 52 = 4 := by kernel_rfl
theorem rd52 {H : Type} {enc : TypeId × Value → H} {W : World} {spare : Nat → Bool} {held : Bool} (fuel : Nat) : Reads enc Try.prog W spare held fuel 52 E52 (fun _ : Step => True) := by
  induction fuel using Nat.strongRecOn with
  | _ fuel ih =>
  cases fuel with
  | zero => exact Reads.zero
  | succ fuel =>
  refine reads_struct Try.underlying52 cs52 (fun cs hl h => ?_)
  obtain ⟨y0, hy0⟩ := h 0 _ rfl
  obtain ⟨x0, r0, g0⟩ := (reads_int Try.underlying5 fuel) _ _ hy0
  simp only [cs5] at r0
  obtain ⟨y1, hy1⟩ := h 1 _ rfl
  obtain ⟨x1, r1, g1⟩ := (reads_int Try.underlying3 fuel) _ _ hy1
  simp only [cs3] at r1
  obtain ⟨y2, hy2⟩ := h 2 _ rfl
  obtain ⟨x2, r2, g2⟩ := (reads_int Try.underlying3 fuel) _ _ hy2
  simp only [cs3] at r2
  obtain ⟨y3, hy3⟩ := h 3 _ rfl
  obtain ⟨x3, r3, g3⟩ := (reads_int Try.underlying2 fuel) _ _ hy3
  simp only [cs2] at r3
  exact ⟨Step.mk x0 x1 x2 x3, (by exact (rfs_chain r0 rfl (rfs_chain r1 rfl (rfs_chain r2 rfl (rfs_chain r3 rfl (rfs_stop hl)))))), trivial⟩
theorem keeps_walk {H : Type} {enc : TypeId × Value → H} (W : World) (base : Nat) (args : Array Value) (ds : List (DataW H)) (p : List MemPlace) (hval : ∀ (j : Nat) t v, Try.f8.params[j]? = some t → args[j]? = some v → Value.okWide Try.prog W .any base t v) (hA : DataW.TrodAll enc Try.prog W 0 (fun _ => true) true Try.f8.params.toList args.toList ds p) : Calls Try.prog 8 args W fun e W' => e = .returned (.bool true) ∧ Go.RowKit.Below W.heap.size W W' := by
  rw [Try.params8] at hA hval
  obtain ⟨args⟩ := args
  simp only at hA
  obtain ⟨v0, vs0, d0, ds0, p0, q0, rfl, rfl, t0, hA0⟩ := trodAll_cons' hA
  obtain ⟨v1, vs1, d1, ds1, p1, q1, rfl, rfl, t1, hA1⟩ := trodAll_cons' hA0
  obtain rfl := trodAll_nil' hA1
  obtain ⟨x0, r0, g0⟩ := reads_arg (fun fuel => (rd26 fuel)) t0
  obtain ⟨c0, rfl⟩ := agg_struct Try.underlying26 (hval 0 26 v0 rfl rfl)
  have a0 := ra_agg r0
  obtain ⟨x1, r1, g1⟩ := reads_arg (fun fuel => (rd52 fuel)) t1
  obtain ⟨c1, rfl⟩ := agg_struct Try.underlying52 (hval 1 52 v1 rfl rfl)
  have a1 := ra_agg r1
  exact calls_of_pu (fun g ps h => by cases h) (f8_c x0 x1 (law8 x0 x1 g0)) (by exact (RAs_cons (by simpa [RA] using a0) (RAs_cons (by simpa [RA] using a1) RAs_nil)))
theorem keeps_lifted (os : Os) (started : os.Started) (H : Type) (enc : TypeId × Value → H) :
    ReturnsInHanded {} Try.checked os 8 .any (Rows.queueKeepsSpec.pre6 enc Try.prog Try.f8 Rows.queueKeepsRow.domain false) (Rows.queueKeepsSpec.post enc Try.prog Try.f8 false true false false) :=
  law_lifted (C := Try.checked) 2 Try.own started (by kernel_rfl) Try.func8
    (ChangeSpec.witness6 (enc := enc) (C := Try.checked) false ⟨#[], #[.agg #[.slice none 0 0, .slice none 0 0, .slice none 0 0, .slice none 0 0, .slice none 0 0, .slice none 0 0, .slice none 0 0, .slice none 0 0, .slice none 0 0, .slice none 0 0, .slice none 0 0, .slice none 0 0, .slice none 0 0, .slice none 0 0, .slice none 0 0, .slice none 0 0, .slice none 0 0, .slice none 0 0, .slice none 0 0, .slice none 0 0, .slice none 0 0, .slice none 0 0, .slice none 0 0, .slice none 0 0, .slice none 0 0, .slice none 0 0, .slice none 0 0, .slice none 0 0, .slice none 0 0, .slice none 0 0, .slice none 0 0, .slice none 0 0, .slice none 0 0, .int .i64 0], .agg #[.int .u8 0, .int .i64 0, .int .i64 0, .int .i64 0]], []⟩ 8 (by kernel_rfl) (by kernel_rfl) (by kernel_rfl) (by kernel_rfl)) rfl rfl rfl Try.underlying4
    (fun ds h => by
      match ds, h with
      | [d0, d1], _ => rfl) Try.laidOut (by kernel_rfl) (fun W base args ds p hval hA _ => keeps_walk W base args ds p hval hA)
theorem keeps_holds : Rows.QueueKeepsSaid :=
  OpenClaim.holds_of_wide 8 Try.f8 rfl rfl rfl rfl rfl rfl rfl ⟨rfl, rfl, rfl, rfl, rfl⟩ rfl rfl rfl rfl rfl (by kernel_rfl) Try.func8 (by kernel_rfl)
    (of_decide_eq_true (by kernel_rfl)) (by unfold Func.isWrapper; first | (rw [if_pos (by decide +kernel)]; kernel_rfl) | (rw [if_neg (by decide +kernel)]; exact ⟨rfl, rfl⟩))
    (fun os started H enc _ => keeps_lifted os started H enc)
end Go.Proofs.Ytpionlekbfoccaa
