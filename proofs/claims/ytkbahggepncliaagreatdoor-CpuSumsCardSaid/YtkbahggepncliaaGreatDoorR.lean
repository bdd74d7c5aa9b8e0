/- What the arguments of layer 28 read asz; what is laid. -/
import Derived.Test.YtkbahggepncliaaGreatDoorRows
import Derived.Test.YtkbahggepncliaaGreatDoorX
import Derived.Test.YtkbahggepncliaaGreatDoorL
set_option linter.unusedVariables false
set_option linter.unusedSimpArgs false
set_option linter.unusedSectionVars false
set_option linter.unnecessarySimpa false
set_option maxRecDepth 100000
namespace Go.Proofs.YtkbahggepncliaaGreatDoor
open Go Go.Sk
open Go.ChangeShapes Go.WideShapes Go.ChangeAt Go.RowKit
theorem Tryz.own : ownKnob Tryz.prog.godebug = none := by kernel_rfl
theorem Tryz.laidOut : laidOutB Tryz.prog = true := by kernel_rfl
abbrev laidT : List (String × DataW Unit) := [("unicode.White_Space", Rows.laid_unicode_White_Space), ("strings.asciiSpace", Rows.laid_strings_asciiSpace), ("ceiling/insn.rows", Rows.laid_ceiling_insn_rows)]
theorem door_met (os : Os) (args : Array Value) : laidMetH Tryz.prog laidT ((World.doorLaid Tryz.prog 400 os).forCall (fun _ _ => 0) ⟨#[], args, []⟩).memory :=
  laidMetH_of_parts3 (fuel := 8) (laidMet_of_run' 8 (by kernel_rfl) (by kernel_rfl)) (by kernel_rfl) (by kernel_rfl)
theorem gl_of_laid {W : World} (h : laidMetH Tryz.prog laidT W) : Gl (allCells W) W := by
  rw [MakeChecks.laidMetH_plain _ _ _ (by kernel_rfl)] at h
  obtain ⟨ps, ⟨g0, t0, cs0, f0, p0, q0, hg0, ht0, hv0, hd0, ⟨g1, t1, cs1, f1, p1, q1, hg1, ht1, hv1, hd1, ⟨g2, t2, cs2, f2, p2, q2, hg2, ht2, hv2, hd2, _, _⟩, _⟩, _⟩, _, _⟩ := h
  obtain rfl := Option.some.inj ((show Tryz.prog.globalNamed "strings.asciiSpace" = some 1 by kernel_rfl).symm.trans hg1)
  obtain rfl := Option.some.inj ((show (Tryz.prog.globals[1]?).map (·.type) = some 277 by kernel_rfl).symm.trans ht1)
  have e1 : (Rows.laid_strings_asciiSpace : DataW Unit) = (DataW.agg (asciiTab.map fun n => DataW.lit (Lit.int .u8 n)) : DataW Unit) := by kernel_rfl
  rw [e1] at hd1
  have r1 := table_laid Tryz.underlying277 Tryz.underlying5 (by kernel_rfl) (by kernel_rfl) hg1 hv1 hd1
  obtain rfl := Option.some.inj ((show Tryz.prog.globalNamed "ceiling/insn.rows" = some 0 by kernel_rfl).symm.trans hg2)
  obtain rfl := Option.some.inj ((show (Tryz.prog.globals[0]?).map (·.type) = some 259 by kernel_rfl).symm.trans ht2)
  have e2 : (Rows.laid_ceiling_insn_rows : DataW Unit) = (DataW.agg (rowsTab.map fun p => DataW.agg [DataW.lit (Lit.string p.1.data.toList), DataW.lit (Lit.string p.2.data.toList)]) : DataW Unit) := by kernel_rfl
  rw [e2] at hd2
  have r2 := table_laid_ss Tryz.underlying259 Tryz.underlying224 rfl rfl rfl rfl Tryz.underlying9 (by kernel_rfl) (by kernel_rfl) (by kernel_rfl) hg2 hv2 hd2
  intro g ps hps
  cases g with
  | zero =>
    simp only [gpc, Option.some.injEq] at hps
    subst hps
    exact r2
  | succ g =>
    cases g with
    | zero =>
      simp only [gpc, Option.some.injEq] at hps
      subst hps
      exact r1
    | succ g => simp [gpc] at hps
theorem cs2 : Tryz.prog.cellsOf 2 = 1 := by kernel_rfl
theorem cs3 : Tryz.prog.cellsOf 3 = 1 := by kernel_rfl
theorem cs22 : Tryz.prog.cellsOf 22 = 4 := by kernel_rfl
theorem cs43 : Tryz.prog.cellsOf 43 = 1 := by kernel_rfl
theorem cs45 : Tryz.prog.cellsOf 45 = 7 := by kernel_rfl
theorem el45 : ∀ x, (E45 x).length = 7 := fun _ => rfl
theorem rd45 {H : Type} {enc : TypeId × Value → H} {W : World} {spare : Nat → Bool} {held : Bool} (fuel : Nat) : Reads enc Tryz.prog W spare held fuel 45 E45 (fun x : Insn => 0 ≤ x.op ∧ x.op ≤ 255) := by
  induction fuel using Nat.strongRecOn with
  | _ fuel ih =>
  cases fuel with
  | zero => exact Reads.zero
  | succ fuel =>
  refine reads_struct Tryz.underlying45 cs45 (fun cs hl h => ?_)
  obtain ⟨y0, hy0⟩ := h 0 _ rfl
  obtain ⟨x0, r0, g0⟩ := (reads_int Tryz.underlying43 fuel) _ _ hy0
  simp only [cs43] at r0
  obtain ⟨y1, hy1⟩ := h 1 _ rfl
  obtain ⟨x1, r1, g1⟩ := (reads_int Tryz.underlying3 fuel) _ _ hy1
  simp only [cs3] at r1
  obtain ⟨y2, hy2⟩ := h 2 _ rfl
  obtain ⟨x2, r2, g2⟩ := (reads_int Tryz.underlying3 fuel) _ _ hy2
  simp only [cs3] at r2
  obtain ⟨y3, hy3⟩ := h 3 _ rfl
  obtain ⟨x3, r3, g3⟩ := (reads_int Tryz.underlying3 fuel) _ _ hy3
  simp only [cs3] at r3
  obtain ⟨y4, hy4⟩ := h 4 _ rfl
  obtain ⟨x4, r4, g4⟩ := (reads_int Tryz.underlying2 fuel) _ _ hy4
  simp only [cs2] at r4
  obtain ⟨y5, hy5⟩ := h 5 _ rfl
  obtain ⟨x5, r5, g5⟩ := (reads_int Tryz.underlying2 fuel) _ _ hy5
  simp only [cs2] at r5
  obtain ⟨y6, hy6⟩ := h 6 _ rfl
  obtain ⟨x6, r6, g6⟩ := (reads_int Tryz.underlying3 fuel) _ _ hy6
  simp only [cs3] at r6
  exact ⟨Insn.mk x0 x1 x2 x3 x4 x5 x6, (by exact (rfs_chain r0 rfl (rfs_chain r1 rfl (rfs_chain r2 rfl (rfs_chain r3 rfl (rfs_chain r4 rfl (rfs_chain r5 rfl (rfs_chain r6 rfl (rfs_stop hl))))))))), ⟨g0.1, g0.2⟩⟩
theorem rd22 {H : Type} {enc : TypeId × Value → H} {W : World} {spare : Nat → Bool} {held : Bool} : ∀ fuel : Nat, Reads enc Tryz.prog W spare held fuel 22 E22 (fun F : Nat → Int => ∀ j, j < 4 → (fun n : Int => IntKind.i64.min ≤ n ∧ n ≤ IntKind.i64.max) (F j))
  | 0 => Reads.zero
  | fuel + 1 => reads_vec (EA := fun n : Int => .i .i64 n) Tryz.underlying22 cs2 cs22 (reads_int Tryz.underlying2 fuel)
end Go.Proofs.YtkbahggepncliaaGreatDoor
