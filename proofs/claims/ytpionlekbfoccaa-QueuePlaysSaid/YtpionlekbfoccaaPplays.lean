/- QueuePlays: for every list of calls: the call returns true and leaves its arguments as they were. No condition. -/
import Derived.Test.YtpionlekbfoccaaVplays
import Derived.Test.YtpionlekbfoccaaR
set_option maxRecDepth 100000
namespace Go.Proofs.Ytpionlekbfoccaa
open Go Go.Sk
open Go.ChangeShapes Go.WideShapes Go.ChangeAt Go.RowKit
theorem cs5 : Try.prog.cellsOf 5 = 1 := by kernel_rfl
theorem cs52 : Try.prog.cellsOf 52 = 4 := by kernel_rfl
theorem rd52 {H : Type} {enc : TypeId × Value → H} {W : World} {spare : Nat → Bool} {held : Bool} (fuel : Nat) : Reads enc Try.prog W spare held fuel 52 E52 (fun _ : Step => True) := by
  induction fuel using Nat.strongRecOn with
  | _ fuel ih =>
  cases fuel with
  | zero => exact Reads.zero
  | succ fuel =>
  refine reads_struct Try.underlying52 cs52 (fun cs hl h => ?_)
  obtain ⟨y0, hy0⟩ := h 0 _ rfl
  obtain ⟨x0, r0, g0⟩ := (reads_int Try.underlying5 fuel) _ _ hy0
  simp only [cs5] at r0
  obtain ⟨y1, hy1⟩ := h 1 _ rfl
  obtain ⟨x1, r1, g1⟩ := (reads_int Try.underlying3 fuel) _ _ hy1
  simp only [cs3] at r1
  obtain ⟨y2, hy2⟩ := h 2 _ rfl
  obtain ⟨x2, r2, g2⟩ := (reads_int Try.underlying3 fuel) _ _ hy2
  simp only [cs3] at r2
  obtain ⟨y3, hy3⟩ := h 3 _ rfl
  obtain ⟨x3, r3, g3⟩ := (reads_int Try.underlying2 fuel) _ _ hy3
  simp only [cs2] at r3
  exact ⟨Step.mk x0 x1 x2 x3, (by exact (rfs_chain r0 rfl (rfs_chain r1 rfl (rfs_chain r2 rfl (rfs_chain r3 rfl (rfs_stop hl)))))), trivial⟩
theorem el52 : ∀ x, (E52 x).length = 4 := fun _ => rfl
theorem plays_walk {H : Type} {enc : TypeId × Value → H} (W : World) (base : Nat) (args : Array Value) (ds : List (DataW H)) (p : List MemPlace) (hval : ∀ (j : Nat) t v, Try.f7.params[j]? = some t → args[j]? = some v → Value.okWide Try.prog W .any base t v) (hA : DataW.TrodAll enc Try.prog W 0 (fun _ => true) true Try.f7.params.toList args.toList ds p) : Calls Try.prog 7 args W fun e W' => e = .returned (.bool true) ∧ Go.RowKit.Below W.heap.size W W' := by
  rw [Try.params7] at hA hval
  obtain ⟨args⟩ := args
  simp only at hA
  obtain ⟨v0, vs0, d0, ds0, p0, q0, rfl, rfl, t0, hA0⟩ := trodAll_cons' hA
  obtain rfl := trodAll_nil' hA0
  obtain ⟨x0, r0, g0⟩ := reads_arg (fun fuel => (reads_sliceF Try.underlying57 cs52 (by decide) el52 (fun f hf => rd52 f))) t0
  have a0 := ra_one r0 (one_slice Try.underlying57 (hval 0 57 v0 rfl rfl))
  exact calls_of_pu (fun g ps h => by cases h) (f7_c x0 (law7 x0 (ltm g0.2))) (by exact (RAs_cons (by simpa [RA] using a0) RAs_nil))
theorem plays_lifted (os : Os) (started : os.Started) (H : Type) (enc : TypeId × Value → H) :
    ReturnsInHanded {} Try.checked os 7 .any (Rows.queuePlaysSpec.pre6 enc Try.prog Try.f7 Rows.queuePlaysRow.domain false) (Rows.queuePlaysSpec.post enc Try.prog Try.f7 false true false false) :=
  law_lifted (C := Try.checked) 1 Try.own started (by kernel_rfl) Try.func7
    (ChangeSpec.witness6 (enc := enc) (C := Try.checked) false ⟨#[], #[.slice none 0 0], []⟩ 8 (by kernel_rfl) (by kernel_rfl) (by kernel_rfl) (by kernel_rfl)) rfl rfl rfl Try.underlying4
    (fun ds h => by
      match ds, h with
      | [d0], _ => rfl) Try.laidOut (by kernel_rfl) (fun W base args ds p hval hA _ => plays_walk W base args ds p hval hA)
theorem plays_holds : Rows.QueuePlaysSaid :=
  OpenClaim.holds_of_wide 7 Try.f7 rfl rfl rfl rfl rfl rfl rfl ⟨rfl, rfl, rfl, rfl, rfl⟩ rfl rfl rfl rfl rfl (by kernel_rfl) Try.func7 (by kernel_rfl)
    (of_decide_eq_true (by kernel_rfl)) (by unfold Func.isWrapper; first | (rw [if_pos (by decide +kernel)]; kernel_rfl) | (rw [if_neg (by decide +kernel)]; exact ⟨rfl, rfl⟩))
    (fun os started H enc _ => plays_lifted os started H enc)
end Go.Proofs.Ytpionlekbfoccaa
