/- What the arguments of layer 29 read as. -/
import Derived.Test.YtpionlekbfoccaaRows
import Derived.Test.YtpionlekbfoccaaWc
import Derived.Test.YtpionlekbfoccaaL
set_option maxRecDepth 100000
namespace Go.Proofs.Ytpionlekbfoccaa
open Go Go.Sk
open Go.ChangeShapes Go.WideShapes Go.ChangeAt Go.RowKit
theorem Try.own : ownKnob Try.prog.godebug = none := by kernel_rfl
theorem Try.laidOut : laidOutB Try.prog = true := by kernel_rfl

theorem cs2 : Try.prog.cellsOf 2 = 1 := by kernel_rfl
theorem cs3 : Try.prog.cellsOf 3 = 1 := by kernel_rfl
theorem cs22 : Try.prog.cellsOf 22 = 1 := by kernel_rfl
theorem cs23 : Try.prog.cellsOf 23 = 32 := by kernel_rfl
theorem cs24 : Try.prog.cellsOf 24 = 1 := by kernel_rfl
theorem cs26 : Try.prog.cellsOf 26 = 34 := by kernel_rfl
theorem cs62 : Try.prog.cellsOf 62 = 2 := by kernel_rfl
theorem el3 : ∀ x, (E3 x).length = 1 := fun _ => rfl
theorem el62 : ∀ x, (E62 x).length = 2 := fun _ => rfl
theorem rd3 {H : Type} {enc : TypeId × Value → H} {W : World} {spare : Nat → Bool} {held : Bool} (fuel : Nat) : Reads enc Try.prog W spare held fuel 3 E3 (fun n : Int => IntKind.i64.min ≤ n ∧ n ≤ IntKind.i64.max) := (reads_int Try.underlying3 fuel)
theorem rd62 {H : Type} {enc : TypeId × Value → H} {W : World} {spare : Nat → Bool} {held : Bool} (fuel : Nat) : Reads enc Try.prog W spare held fuel 62 E62 (fun _ : Due => True) := by
  induction fuel using Nat.strongRecOn with
  | _ fuel ih =>
  cases fuel with
  | zero => exact Reads.zero
  | succ fuel =>
  refine reads_struct Try.underlying62 cs62 (fun cs hl h => ?_)
  obtain ⟨y0, hy0⟩ := h 0 _ rfl
  obtain ⟨x0, r0, g0⟩ := (reads_int Try.underlying2 fuel) _ _ hy0
  simp only [cs2] at r0
  obtain ⟨y1, hy1⟩ := h 1 _ rfl
  obtain ⟨x1, r1, g1⟩ := (reads_int Try.underlying3 fuel) _ _ hy1
  simp only [cs3] at r1
  exact ⟨Due.mk x0 x1, (by exact (rfs_chain r0 rfl (rfs_chain r1 rfl (rfs_stop hl)))), trivial⟩
theorem rd23 {H : Type} {enc : TypeId × Value → H} {W : World} {spare : Nat → Bool} {held : Bool} : ∀ fuel : Nat, Reads enc Try.prog W spare held fuel 23 E23 (fun F : Nat → List Int => ∀ j, j < 32 → ((∀ x ∈ F j, (fun n : Int => IntKind.i64.min ≤ n ∧ n ≤ IntKind.i64.max) x) ∧ (F j).length ≤ maxLen))
  | 0 => Reads.zero
  | fuel + 1 => reads_vec (EA := fun L : List Int => .sl (List.map E3 L)) Try.underlying23 cs22 cs23 (reads_sliceF Try.underlying22 cs3 (by decide) el3 (fun f _ => rd3 f))
theorem ltm {n : Nat} (h : n ≤ maxLen) : n < 9223372036854775808 := by simp only [maxLen] at h; omega
theorem rd26 {H : Type} {enc : TypeId × Value → H} {W : World} {spare : Nat → Bool} {held : Bool} (fuel : Nat) : Reads enc Try.prog W spare held fuel 26 E26 Bnd := by
  induction fuel using Nat.strongRecOn with
  | _ fuel ih =>
  cases fuel with
  | zero => exact Reads.zero
  | succ fuel =>
  refine reads_struct Try.underlying26 cs26 (fun cs hl h => ?_)
  obtain ⟨y0, hy0⟩ := h 0 _ rfl
  obtain ⟨x0, r0, g0⟩ := (rd23 fuel) _ _ hy0
  change RFs _ _ _ (List.take (Try.prog.cellsOf 23) (List.drop 0 cs)) at r0
  rw [cs23] at r0
  obtain ⟨y1, hy1⟩ := h 1 _ rfl
  obtain ⟨x1, r1, g1⟩ := (reads_sliceF Try.underlying24 cs62 (by decide) el62 (fun f hf => rd62 f)) _ _ hy1
  change RFs _ _ _ (List.take (Try.prog.cellsOf 24) (List.drop 32 cs)) at r1
  rw [cs24] at r1
  obtain ⟨y2, hy2⟩ := h 2 _ rfl
  obtain ⟨x2, r2, g2⟩ := (reads_int Try.underlying3 fuel) _ _ hy2
  change RFs _ _ _ (List.take (Try.prog.cellsOf 3) (List.drop 33 cs)) at r2
  rw [cs3] at r2
  exact ⟨Queues.mk x0 x1 x2, (by exact (rfs_chain r0 rfl (rfs_chain r1 rfl (rfs_chain r2 rfl (rfs_stop hl))))), ⟨fun j hj => ltm (g0 j hj).2, ltm g1.2⟩⟩
end Go.Proofs.Ytpionlekbfoccaa
