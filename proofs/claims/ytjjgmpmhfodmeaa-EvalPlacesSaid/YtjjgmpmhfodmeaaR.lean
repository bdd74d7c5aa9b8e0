/- What the arguments of layer 19 read as. -/
import Derived.Test.YtjjgmpmhfodmeaaRows
import Derived.Test.YtjjgmpmhfodmeaaWc
import Derived.Test.YtjjgmpmhfodmeaaL
set_option maxRecDepth 100000
namespace Go.Proofs.Ytjjgmpmhfodmeaa
open Go Go.Sk
open Go.ChangeShapes Go.WideShapes Go.ChangeAt Go.RowKit
theorem Try.own : ownKnob Try.prog.godebug = none := by kernel_rfl
theorem Try.laidOut : laidOutB Try.prog = true := by kernel_rfl

theorem cs2 : Try.prog.cellsOf 2 = 1 := by kernel_rfl
theorem cs3 : Try.prog.cellsOf 3 = 1 := by kernel_rfl
theorem cs22 : Try.prog.cellsOf 22 = 1 := by kernel_rfl
theorem cs23 : Try.prog.cellsOf 23 = 1 := by kernel_rfl
theorem cs24 : Try.prog.cellsOf 24 = 1 := by kernel_rfl
theorem cs26 : Try.prog.cellsOf 26 = 9 := by kernel_rfl
theorem cs56 : Try.prog.cellsOf 56 = 1 := by kernel_rfl
theorem el2 : ∀ x, (E2 x).length = 1 := fun _ => rfl
theorem el3 : ∀ x, (E3 x).length = 1 := fun _ => rfl
theorem el56 : ∀ x, (E56 x).length = 1 := fun _ => rfl
theorem el26 : ∀ x, (E26 x).length = 9 := fun x => by rw [E26_eq]; rfl
theorem rd2 {H : Type} {enc : TypeId × Value → H} {W : World} {spare : Nat → Bool} {held : Bool} (fuel : Nat) : Reads enc Try.prog W spare held fuel 2 E2 (fun n : Int => IntKind.i64.min ≤ n ∧ n ≤ IntKind.i64.max) := (reads_int Try.underlying2 fuel)
theorem rd3 {H : Type} {enc : TypeId × Value → H} {W : World} {spare : Nat → Bool} {held : Bool} (fuel : Nat) : Reads enc Try.prog W spare held fuel 3 E3 (fun n : Int => IntKind.i64.min ≤ n ∧ n ≤ IntKind.i64.max) := (reads_int Try.underlying3 fuel)
theorem rd56 {H : Type} {enc : TypeId × Value → H} {W : World} {spare : Nat → Bool} {held : Bool} (fuel : Nat) : Reads enc Try.prog W spare held fuel 56 E56 (fun L : List Int => (∀ x ∈ L, (fun n : Int => IntKind.i64.min ≤ n ∧ n ≤ IntKind.i64.max) x) ∧ L.length ≤ maxLen) := (reads_sliceF Try.underlying56 cs2 (by decide) el2 (fun f hf => rd2 f))
theorem rd26 {H : Type} {enc : TypeId × Value → H} {W : World} {spare : Nat → Bool} {held : Bool} (fuel : Nat) : Reads enc Try.prog W spare held fuel 26 E26 GE := by
  induction fuel using Nat.strongRecOn with
  | _ fuel ih =>
  cases fuel with
  | zero => exact Reads.zero
  | succ fuel =>
  refine reads_struct Try.underlying26 cs26 (fun cs hl h => ?_)
  obtain ⟨y0, hy0⟩ := h 0 _ rfl
  obtain ⟨x0, r0, g0⟩ := (reads_int Try.underlying22 fuel) _ _ hy0
  simp only [cs22] at r0
  obtain ⟨y1, hy1⟩ := h 1 _ rfl
  obtain ⟨x1, r1, g1⟩ := (reads_int Try.underlying23 fuel) _ _ hy1
  simp only [cs23] at r1
  obtain ⟨y2, hy2⟩ := h 2 _ rfl
  obtain ⟨x2, r2, g2⟩ := (reads_int Try.underlying2 fuel) _ _ hy2
  simp only [cs2] at r2
  obtain ⟨y3, hy3⟩ := h 3 _ rfl
  obtain ⟨x3, r3, g3⟩ := (reads_int Try.underlying3 fuel) _ _ hy3
  simp only [cs3] at r3
  obtain ⟨y4, hy4⟩ := h 4 _ rfl
  obtain ⟨x4, r4, g4⟩ := (reads_int Try.underlying3 fuel) _ _ hy4
  simp only [cs3] at r4
  obtain ⟨y5, hy5⟩ := h 5 _ rfl
  obtain ⟨x5, r5, g5⟩ := (reads_int Try.underlying3 fuel) _ _ hy5
  simp only [cs3] at r5
  obtain ⟨y6, hy6⟩ := h 6 _ rfl
  obtain ⟨x6, r6, g6⟩ := (reads_int Try.underlying2 fuel) _ _ hy6
  simp only [cs2] at r6
  obtain ⟨y7, hy7⟩ := h 7 _ rfl
  obtain ⟨x7, r7, g7⟩ := (reads_int Try.underlying2 fuel) _ _ hy7
  simp only [cs2] at r7
  obtain ⟨y8, hy8⟩ := h 8 _ rfl
  obtain ⟨x8, r8, g8⟩ := (reads_sliceF Try.underlying24 cs26 (by decide) el26 (fun f hf => ih f (by omega))) _ _ hy8
  simp only [cs24] at r8
  exact ⟨CE.mk x0 x1 x2 x3 x4 x5 x6 x7 x8, (by rw [E26_eq]; exact (rfs_chain r0 rfl (rfs_chain r1 rfl (rfs_chain r2 rfl (rfs_chain r3 rfl (rfs_chain r4 rfl (rfs_chain r5 rfl (rfs_chain r6 rfl (rfs_chain r7 rfl (rfs_chain r8 rfl (rfs_stop hl))))))))))), .mk ⟨g0.1, g0.2⟩ ⟨g1.1, g1.2⟩ ⟨g2.1, g2.2⟩ ⟨g3.1, g3.2⟩ ⟨g4.1, g4.2⟩ ⟨g5.1, g5.2⟩ ⟨g6.1, g6.2⟩ ⟨g7.1, g7.2⟩ g8.1 g8.2⟩
end Go.Proofs.Ytjjgmpmhfodmeaa
