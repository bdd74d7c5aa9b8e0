/- What the arguments of layer 28 read asz; what is laid. -/
import Derived.Test.YtkbahggepncliaaGreatDoorRows
import Derived.Test.YtkbahggepncliaaGreatDoorX
import Derived.Test.YtkbahggepncliaaGreatDoorL
set_option linter.unusedVariables false
set_option linter.unusedSimpArgs false
set_option linter.unusedSectionVars false
set_option linter.unnecessarySimpa false
set_option maxRecDepth 100000
namespace Go.Proofs.YtkbahggepncliaaGreatDoor
open Go Go.Sk
open Go.ChangeShapes Go.WideShapes Go.ChangeAt Go.RowKit
theorem Tryz.own : ownKnob Tryz.prog.godebug = none := by kernel_rfl
theorem Tryz.laidOut : laidOutB Tryz.prog = true := by kernel_rfl
abbrev laidT : List (String × DataW Unit) := [("unicode.White_Space", Rows.laid_unicode_White_Space), ("strings.asciiSpace", Rows.laid_strings_asciiSpace), ("ceiling/insn.rows", Rows.laid_ceiling_insn_rows)]
theorem door_met (os : Os) (args : Array Value) : laidMetH Tryz.prog laidT ((World.doorLaid Tryz.prog 400 os).forCall (fun _ _ => 0) ⟨#[], args, []⟩).memory :=
  laidMetH_of_parts3 (fuel := 8) (laidMet_of_run' 8 (by kernel_rfl) (by kernel_rfl)) (by kernel_rfl) (by kernel_rfl)
theorem gl_of_laid {W : World} (h : laidMetH Tryz.prog laidT W) : Gl (allCells W) W := by
  rw [MakeChecks.laidMetH_plain _ _ _ (by kernel_rfl)] at h
  obtain ⟨ps, ⟨g0, t0, cs0, f0, p0, q0, hg0, ht0, hv0, hd0, ⟨g1, t1, cs1, f1, p1, q1, hg1, ht1, hv1, hd1, ⟨g2, t2, cs2, f2, p2, q2, hg2, ht2, hv2, hd2, _, _⟩, _⟩, _⟩, _, _⟩ := h
  obtain rfl := Option.some.inj ((show Tryz.prog.globalNamed "strings.asciiSpace" = some 1 by kernel_rfl).symm.trans hg1)
  obtain rfl := Option.some.inj ((show (Tryz.prog.globals[1]?).map (·.type) = some 277 by kernel_rfl).symm.trans ht1)
  have e1 : (Rows.laid_strings_asciiSpace : DataW Unit) = (DataW.agg (asciiTab.map fun n => DataW.lit (Lit.int .u8 n)) : DataW Unit) := by kernel_rfl
  rw [e1] at hd1
  have r1 := table_laid Tryz.underlying277 Tryz.underlying5 (by kernel_rfl) (by kernel_rfl) hg1 hv1 hd1
  obtain rfl := Option.some.inj ((show Tryz.prog.globalNamed "ceiling/insn.rows" = some 0 by kernel_rfl).symm.trans hg2)
  obtain rfl := Option.some.inj ((show (Tryz.prog.globals[0]?).map (·.type) = some 259 by kernel_rfl).symm.trans ht2)
  have e2 : (Rows.laid_ceiling_insn_rows : DataW Unit) = (DataW.agg (rowsTab.map fun p => DataW.agg [DataW.lit (Lit.string p.1.data.toList), DataW.lit (Lit.string p.2.data.toList)]) : DataW Unit) := by kernel_rfl
  rw [e2] at hd2
  have r2 := table_laid_ss Tryz.underlying259 Tryz.underlying224 rfl rfl rfl rfl Tryz.underlying9 (by kernel_rfl) (by kernel_rfl) (by kernel_rfl) hg2 hv2 hd2
  intro g ps hps
  cases g with
  | zero =>
    simp only [gpc, Option.some.injEq] at hps
    subst hps
    exact r2
  | succ g =>
    cases g with
    | zero =>
      simp only [gpc, Option.some.injEq] at hps
      subst hps
      exact r1
    | succ g => simp [gpc] at hps
theorem ltm {n : Nat} (h : n ≤ maxLen) : n < 9223372036854775808 := by simp only [maxLen] at h; omega
theorem cs2 : Tryz.prog.cellsOf 2 = 1 := by kernel_rfl
theorem cs3 : Tryz.prog.cellsOf 3 = 1 := by kernel_rfl
theorem cs4 : Tryz.prog.cellsOf 4 = 1 := by kernel_rfl
theorem cs23 : Tryz.prog.cellsOf 23 = 1 := by kernel_rfl
theorem cs25 : Tryz.prog.cellsOf 25 = 1 := by kernel_rfl
theorem cs27 : Tryz.prog.cellsOf 27 = 4 := by kernel_rfl
theorem cs28 : Tryz.prog.cellsOf 28 = 1 := by kernel_rfl
theorem cs29 : Tryz.prog.cellsOf 29 = 1 := by kernel_rfl
theorem cs30 : Tryz.prog.cellsOf 30 = 1 := by kernel_rfl
theorem cs31 : Tryz.prog.cellsOf 31 = 1 := by kernel_rfl
theorem cs32 : Tryz.prog.cellsOf 32 = 1 := by kernel_rfl
theorem cs33 : Tryz.prog.cellsOf 33 = 1 := by kernel_rfl
theorem cs34 : Tryz.prog.cellsOf 34 = 1 := by kernel_rfl
theorem cs35 : Tryz.prog.cellsOf 35 = 1 := by kernel_rfl
theorem cs36 : Tryz.prog.cellsOf 36 = 1 := by kernel_rfl
theorem cs38 : Tryz.prog.cellsOf 38 = 11 := by kernel_rfl
theorem cs43 : Tryz.prog.cellsOf 43 = 1 := by kernel_rfl
theorem cs45 : Tryz.prog.cellsOf 45 = 7 := by kernel_rfl
theorem cs96 : Tryz.prog.cellsOf 96 = 1 := by kernel_rfl
theorem cs101 : Tryz.prog.cellsOf 101 = 5 := by kernel_rfl
theorem cs108 : Tryz.prog.cellsOf 108 = 4 := by kernel_rfl
theorem cs140 : Tryz.prog.cellsOf 140 = 3 := by kernel_rfl
theorem cs146 : Tryz.prog.cellsOf 146 = 1 := by kernel_rfl
theorem cs153 : Tryz.prog.cellsOf 153 = 1 := by kernel_rfl
theorem cs155 : Tryz.prog.cellsOf 155 = 3 := by kernel_rfl
theorem cs156 : Tryz.prog.cellsOf 156 = 1 := by kernel_rfl
theorem cs158 : Tryz.prog.cellsOf 158 = 5 := by kernel_rfl
theorem cs162 : Tryz.prog.cellsOf 162 = 1 := by kernel_rfl
theorem cs164 : Tryz.prog.cellsOf 164 = 2 := by kernel_rfl
theorem cs173 : Tryz.prog.cellsOf 173 = 2 := by kernel_rfl
theorem cs177 : Tryz.prog.cellsOf 177 = 1 := by kernel_rfl
theorem cs179 : Tryz.prog.cellsOf 179 = 9 := by kernel_rfl
theorem cs189 : Tryz.prog.cellsOf 189 = 3 := by kernel_rfl
theorem cs190 : Tryz.prog.cellsOf 190 = 1 := by kernel_rfl
theorem cs192 : Tryz.prog.cellsOf 192 = 2 := by kernel_rfl
theorem el2 : ∀ x, (E2 x).length = 1 := fun _ => rfl
theorem el3 : ∀ x, (E3 x).length = 1 := fun _ => rfl
theorem el27 : ∀ x, (E27 x).length = 4 := fun _ => rfl
theorem el45 : ∀ x, (E45 x).length = 7 := fun _ => rfl
theorem el96 : ∀ x, (E96 x).length = 1 := fun _ => rfl
theorem el101 : ∀ x, (E101 x).length = 5 := fun _ => rfl
theorem el108 : ∀ x, (E108 x).length = 4 := fun _ => rfl
theorem el140 : ∀ x, (E140 x).length = 3 := fun _ => rfl
theorem el155 : ∀ x, (E155 x).length = 3 := fun _ => rfl
theorem el158 : ∀ x, (E158 x).length = 5 := fun _ => rfl
theorem el164 : ∀ x, (E164 x).length = 2 := fun _ => rfl
theorem el173 : ∀ x, (E173 x).length = 2 := fun _ => rfl
theorem el179 : ∀ x, (E179 x).length = 9 := fun x => by rw [E179_eq]; rfl
theorem el189 : ∀ x, (E189 x).length = 3 := fun _ => rfl
theorem el192 : ∀ x, (E192 x).length = 2 := fun _ => rfl
theorem rd2 {H : Type} {enc : TypeId × Value → H} {W : World} {spare : Nat → Bool} {held : Bool} (fuel : Nat) : Reads enc Tryz.prog W spare held fuel 2 E2 (fun n : Int => IntKind.i64.min ≤ n ∧ n ≤ IntKind.i64.max) := (reads_int Tryz.underlying2 fuel)
theorem rd3 {H : Type} {enc : TypeId × Value → H} {W : World} {spare : Nat → Bool} {held : Bool} (fuel : Nat) : Reads enc Tryz.prog W spare held fuel 3 E3 (fun n : Int => IntKind.i64.min ≤ n ∧ n ≤ IntKind.i64.max) := (reads_int Tryz.underlying3 fuel)
theorem rd96 {H : Type} {enc : TypeId × Value → H} {W : World} {spare : Nat → Bool} {held : Bool} (fuel : Nat) : Reads enc Tryz.prog W spare held fuel 96 E96 (fun L : List Int => (∀ x ∈ L, (fun n : Int => IntKind.i64.min ≤ n ∧ n ≤ IntKind.i64.max) x) ∧ L.length ≤ maxLen) := (reads_sliceF Tryz.underlying96 cs3 (by decide) el3 (fun f hf => rd3 f))
theorem rd45 {H : Type} {enc : TypeId × Value → H} {W : World} {spare : Nat → Bool} {held : Bool} (fuel : Nat) : Reads enc Tryz.prog W spare held fuel 45 E45 (fun x : Insn => 0 ≤ x.op ∧ x.op ≤ 255) := by
  induction fuel using Nat.strongRecOn with
  | _ fuel ih =>
  cases fuel with
  | zero => exact Reads.zero
  | succ fuel =>
  refine reads_struct Tryz.underlying45 cs45 (fun cs hl h => ?_)
  obtain ⟨y0, hy0⟩ := h 0 _ rfl
  obtain ⟨x0, r0, g0⟩ := (reads_int Tryz.underlying43 fuel) _ _ hy0
  simp only [cs43] at r0
  obtain ⟨y1, hy1⟩ := h 1 _ rfl
  obtain ⟨x1, r1, g1⟩ := (reads_int Tryz.underlying3 fuel) _ _ hy1
  simp only [cs3] at r1
  obtain ⟨y2, hy2⟩ := h 2 _ rfl
  obtain ⟨x2, r2, g2⟩ := (reads_int Tryz.underlying3 fuel) _ _ hy2
  simp only [cs3] at r2
  obtain ⟨y3, hy3⟩ := h 3 _ rfl
  obtain ⟨x3, r3, g3⟩ := (reads_int Tryz.underlying3 fuel) _ _ hy3
  simp only [cs3] at r3
  obtain ⟨y4, hy4⟩ := h 4 _ rfl
  obtain ⟨x4, r4, g4⟩ := (reads_int Tryz.underlying2 fuel) _ _ hy4
  simp only [cs2] at r4
  obtain ⟨y5, hy5⟩ := h 5 _ rfl
  obtain ⟨x5, r5, g5⟩ := (reads_int Tryz.underlying2 fuel) _ _ hy5
  simp only [cs2] at r5
  obtain ⟨y6, hy6⟩ := h 6 _ rfl
  obtain ⟨x6, r6, g6⟩ := (reads_int Tryz.underlying3 fuel) _ _ hy6
  simp only [cs3] at r6
  exact ⟨Insn.mk x0 x1 x2 x3 x4 x5 x6, (by exact (rfs_chain r0 rfl (rfs_chain r1 rfl (rfs_chain r2 rfl (rfs_chain r3 rfl (rfs_chain r4 rfl (rfs_chain r5 rfl (rfs_chain r6 rfl (rfs_stop hl))))))))), ⟨g0.1, g0.2⟩⟩
theorem rd108 {H : Type} {enc : TypeId × Value → H} {W : World} {spare : Nat → Bool} {held : Bool} (fuel : Nat) : Reads enc Tryz.prog W spare held fuel 108 E108 (fun _ : MHandler => True) := by
  induction fuel using Nat.strongRecOn with
  | _ fuel ih =>
  cases fuel with
  | zero => exact Reads.zero
  | succ fuel =>
  refine reads_struct Tryz.underlying108 cs108 (fun cs hl h => ?_)
  obtain ⟨y0, hy0⟩ := h 0 _ rfl
  obtain ⟨x0, r0, g0⟩ := (reads_int Tryz.underlying3 fuel) _ _ hy0
  simp only [cs3] at r0
  obtain ⟨y1, hy1⟩ := h 1 _ rfl
  obtain ⟨x1, r1, g1⟩ := (reads_int Tryz.underlying3 fuel) _ _ hy1
  simp only [cs3] at r1
  obtain ⟨y2, hy2⟩ := h 2 _ rfl
  obtain ⟨x2, r2, g2⟩ := (reads_int Tryz.underlying3 fuel) _ _ hy2
  simp only [cs3] at r2
  obtain ⟨y3, hy3⟩ := h 3 _ rfl
  obtain ⟨x3, r3, g3⟩ := (reads_bool Tryz.underlying4 fuel) _ _ hy3
  simp only [cs4] at r3
  exact ⟨MHandler.mk x0 x1 x2 x3, (by exact (rfs_chain r0 rfl (rfs_chain r1 rfl (rfs_chain r2 rfl (rfs_chain r3 rfl (rfs_stop hl)))))), trivial⟩
theorem rd189 {H : Type} {enc : TypeId × Value → H} {W : World} {spare : Nat → Bool} {held : Bool} (fuel : Nat) : Reads enc Tryz.prog W spare held fuel 189 E189 (fun _ : Loop => True) := by
  induction fuel using Nat.strongRecOn with
  | _ fuel ih =>
  cases fuel with
  | zero => exact Reads.zero
  | succ fuel =>
  refine reads_struct Tryz.underlying189 cs189 (fun cs hl h => ?_)
  obtain ⟨y0, hy0⟩ := h 0 _ rfl
  obtain ⟨x0, r0, g0⟩ := (reads_int Tryz.underlying3 fuel) _ _ hy0
  simp only [cs3] at r0
  obtain ⟨y1, hy1⟩ := h 1 _ rfl
  obtain ⟨x1, r1, g1⟩ := (reads_int Tryz.underlying3 fuel) _ _ hy1
  simp only [cs3] at r1
  obtain ⟨y2, hy2⟩ := h 2 _ rfl
  obtain ⟨x2, r2, g2⟩ := (reads_int Tryz.underlying2 fuel) _ _ hy2
  simp only [cs2] at r2
  exact ⟨Loop.mk x0 x1 x2, (by exact (rfs_chain r0 rfl (rfs_chain r1 rfl (rfs_chain r2 rfl (rfs_stop hl))))), trivial⟩
theorem rd158 {H : Type} {enc : TypeId × Value → H} {W : World} {spare : Nat → Bool} {held : Bool} (fuel : Nat) : Reads enc Tryz.prog W spare held fuel 158 E158 (fun _ : MAlt => True) := by
  induction fuel using Nat.strongRecOn with
  | _ fuel ih =>
  cases fuel with
  | zero => exact Reads.zero
  | succ fuel =>
  refine reads_struct Tryz.underlying158 cs158 (fun cs hl h => ?_)
  obtain ⟨y0, hy0⟩ := h 0 _ rfl
  obtain ⟨x0, r0, g0⟩ := (reads_int Tryz.underlying156 fuel) _ _ hy0
  simp only [cs156] at r0
  obtain ⟨y1, hy1⟩ := h 1 _ rfl
  obtain ⟨x1, r1, g1⟩ := (reads_int Tryz.underlying3 fuel) _ _ hy1
  simp only [cs3] at r1
  obtain ⟨y2, hy2⟩ := h 2 _ rfl
  obtain ⟨x2, r2, g2⟩ := (reads_int Tryz.underlying3 fuel) _ _ hy2
  simp only [cs3] at r2
  obtain ⟨y3, hy3⟩ := h 3 _ rfl
  obtain ⟨x3, r3, g3⟩ := (reads_int Tryz.underlying3 fuel) _ _ hy3
  simp only [cs3] at r3
  obtain ⟨y4, hy4⟩ := h 4 _ rfl
  obtain ⟨x4, r4, g4⟩ := (reads_int Tryz.underlying3 fuel) _ _ hy4
  simp only [cs3] at r4
  exact ⟨MAlt.mk x0 x1 x2 x3 x4, (by exact (rfs_chain r0 rfl (rfs_chain r1 rfl (rfs_chain r2 rfl (rfs_chain r3 rfl (rfs_chain r4 rfl (rfs_stop hl))))))), trivial⟩
theorem rd155 {H : Type} {enc : TypeId × Value → H} {W : World} {spare : Nat → Bool} {held : Bool} (fuel : Nat) : Reads enc Tryz.prog W spare held fuel 155 E155 (fun _ : Select => True) := by
  induction fuel using Nat.strongRecOn with
  | _ fuel ih =>
  cases fuel with
  | zero => exact Reads.zero
  | succ fuel =>
  refine reads_struct Tryz.underlying155 cs155 (fun cs hl h => ?_)
  obtain ⟨y0, hy0⟩ := h 0 _ rfl
  obtain ⟨x0, r0, g0⟩ := (reads_sliceF Tryz.underlying153 cs158 (by decide) el158 (fun f hf => rd158 f)) _ _ hy0
  simp only [cs153] at r0
  obtain ⟨y1, hy1⟩ := h 1 _ rfl
  obtain ⟨x1, r1, g1⟩ := (reads_int Tryz.underlying3 fuel) _ _ hy1
  simp only [cs3] at r1
  obtain ⟨y2, hy2⟩ := h 2 _ rfl
  obtain ⟨x2, r2, g2⟩ := (reads_int Tryz.underlying3 fuel) _ _ hy2
  simp only [cs3] at r2
  exact ⟨Select.mk x0 x1 x2, (by exact (rfs_chain r0 rfl (rfs_chain r1 rfl (rfs_chain r2 rfl (rfs_stop hl))))), trivial⟩
theorem rd101 {H : Type} {enc : TypeId × Value → H} {W : World} {spare : Nat → Bool} {held : Bool} (fuel : Nat) : Reads enc Tryz.prog W spare held fuel 101 E101 (fun x : Obj => x.set_.length < 9223372036854775808) := by
  induction fuel using Nat.strongRecOn with
  | _ fuel ih =>
  cases fuel with
  | zero => exact Reads.zero
  | succ fuel =>
  refine reads_struct Tryz.underlying101 cs101 (fun cs hl h => ?_)
  obtain ⟨y0, hy0⟩ := h 0 _ rfl
  obtain ⟨x0, r0, g0⟩ := (reads_int Tryz.underlying3 fuel) _ _ hy0
  simp only [cs3] at r0
  obtain ⟨y1, hy1⟩ := h 1 _ rfl
  obtain ⟨x1, r1, g1⟩ := (reads_int Tryz.underlying2 fuel) _ _ hy1
  simp only [cs2] at r1
  obtain ⟨y2, hy2⟩ := h 2 _ rfl
  obtain ⟨x2, r2, g2⟩ := (reads_int Tryz.underlying2 fuel) _ _ hy2
  simp only [cs2] at r2
  obtain ⟨y3, hy3⟩ := h 3 _ rfl
  obtain ⟨x3, r3, g3⟩ := (reads_bool Tryz.underlying4 fuel) _ _ hy3
  simp only [cs4] at r3
  obtain ⟨y4, hy4⟩ := h 4 _ rfl
  obtain ⟨x4, r4, g4⟩ := (reads_sliceF Tryz.underlying96 cs3 (by decide) el3 (fun f hf => rd3 f)) _ _ hy4
  simp only [cs96] at r4
  exact ⟨Obj.mk x0 x1 x2 x3 x4, (by exact (rfs_chain r0 rfl (rfs_chain r1 rfl (rfs_chain r2 rfl (rfs_chain r3 rfl (rfs_chain r4 rfl (rfs_stop hl))))))), ltm g4.2⟩
theorem rd140 {H : Type} {enc : TypeId × Value → H} {W : World} {spare : Nat → Bool} {held : Bool} (fuel : Nat) : Reads enc Tryz.prog W spare held fuel 140 E140 (fun _ : Init => True) := by
  induction fuel using Nat.strongRecOn with
  | _ fuel ih =>
  cases fuel with
  | zero => exact Reads.zero
  | succ fuel =>
  refine reads_struct Tryz.underlying140 cs140 (fun cs hl h => ?_)
  obtain ⟨y0, hy0⟩ := h 0 _ rfl
  obtain ⟨x0, r0, g0⟩ := (reads_int Tryz.underlying3 fuel) _ _ hy0
  simp only [cs3] at r0
  obtain ⟨y1, hy1⟩ := h 1 _ rfl
  obtain ⟨x1, r1, g1⟩ := (reads_int Tryz.underlying3 fuel) _ _ hy1
  simp only [cs3] at r1
  obtain ⟨y2, hy2⟩ := h 2 _ rfl
  obtain ⟨x2, r2, g2⟩ := (reads_int Tryz.underlying2 fuel) _ _ hy2
  simp only [cs2] at r2
  exact ⟨Init.mk x0 x1 x2, (by exact (rfs_chain r0 rfl (rfs_chain r1 rfl (rfs_chain r2 rfl (rfs_stop hl))))), trivial⟩
theorem rd173 {H : Type} {enc : TypeId × Value → H} {W : World} {spare : Nat → Bool} {held : Bool} (fuel : Nat) : Reads enc Tryz.prog W spare held fuel 173 E173 (fun _ : Entry => True) := by
  induction fuel using Nat.strongRecOn with
  | _ fuel ih =>
  cases fuel with
  | zero => exact Reads.zero
  | succ fuel =>
  refine reads_struct Tryz.underlying173 cs173 (fun cs hl h => ?_)
  obtain ⟨y0, hy0⟩ := h 0 _ rfl
  obtain ⟨x0, r0, g0⟩ := (reads_sliceF Tryz.underlying96 cs3 (by decide) el3 (fun f hf => rd3 f)) _ _ hy0
  simp only [cs96] at r0
  obtain ⟨y1, hy1⟩ := h 1 _ rfl
  obtain ⟨x1, r1, g1⟩ := (reads_sliceF Tryz.underlying96 cs3 (by decide) el3 (fun f hf => rd3 f)) _ _ hy1
  simp only [cs96] at r1
  exact ⟨Entry.mk x0 x1, (by exact (rfs_chain r0 rfl (rfs_chain r1 rfl (rfs_stop hl)))), trivial⟩
theorem rd27 {H : Type} {enc : TypeId × Value → H} {W : World} {spare : Nat → Bool} {held : Bool} (fuel : Nat) : Reads enc Tryz.prog W spare held fuel 27 E27 (fun _ : MTask => True) := by
  induction fuel using Nat.strongRecOn with
  | _ fuel ih =>
  cases fuel with
  | zero => exact Reads.zero
  | succ fuel =>
  refine reads_struct Tryz.underlying27 cs27 (fun cs hl h => ?_)
  obtain ⟨y0, hy0⟩ := h 0 _ rfl
  obtain ⟨x0, r0, g0⟩ := (reads_int Tryz.underlying3 fuel) _ _ hy0
  simp only [cs3] at r0
  obtain ⟨y1, hy1⟩ := h 1 _ rfl
  obtain ⟨x1, r1, g1⟩ := (reads_int Tryz.underlying3 fuel) _ _ hy1
  simp only [cs3] at r1
  obtain ⟨y2, hy2⟩ := h 2 _ rfl
  obtain ⟨x2, r2, g2⟩ := (reads_sliceF Tryz.underlying25 cs173 (by decide) el173 (fun f hf => rd173 f)) _ _ hy2
  simp only [cs25] at r2
  obtain ⟨y3, hy3⟩ := h 3 _ rfl
  obtain ⟨x3, r3, g3⟩ := (reads_int Tryz.underlying2 fuel) _ _ hy3
  simp only [cs2] at r3
  exact ⟨MTask.mk x0 x1 x2 x3, (by exact (rfs_chain r0 rfl (rfs_chain r1 rfl (rfs_chain r2 rfl (rfs_chain r3 rfl (rfs_stop hl)))))), trivial⟩
theorem rd179 {H : Type} {enc : TypeId × Value → H} {W : World} {spare : Nat → Bool} {held : Bool} (fuel : Nat) : Reads enc Tryz.prog W spare held fuel 179 E179 (fun _ : CExpr => True) := by
  induction fuel using Nat.strongRecOn with
  | _ fuel ih =>
  cases fuel with
  | zero => exact Reads.zero
  | succ fuel =>
  refine reads_struct Tryz.underlying179 cs179 (fun cs hl h => ?_)
  obtain ⟨y0, hy0⟩ := h 0 _ rfl
  obtain ⟨x0, r0, g0⟩ := (reads_int Tryz.underlying177 fuel) _ _ hy0
  simp only [cs177] at r0
  obtain ⟨y1, hy1⟩ := h 1 _ rfl
  obtain ⟨x1, r1, g1⟩ := (reads_int Tryz.underlying146 fuel) _ _ hy1
  simp only [cs146] at r1
  obtain ⟨y2, hy2⟩ := h 2 _ rfl
  obtain ⟨x2, r2, g2⟩ := (reads_int Tryz.underlying2 fuel) _ _ hy2
  simp only [cs2] at r2
  obtain ⟨y3, hy3⟩ := h 3 _ rfl
  obtain ⟨x3, r3, g3⟩ := (reads_int Tryz.underlying3 fuel) _ _ hy3
  simp only [cs3] at r3
  obtain ⟨y4, hy4⟩ := h 4 _ rfl
  obtain ⟨x4, r4, g4⟩ := (reads_int Tryz.underlying3 fuel) _ _ hy4
  simp only [cs3] at r4
  obtain ⟨y5, hy5⟩ := h 5 _ rfl
  obtain ⟨x5, r5, g5⟩ := (reads_int Tryz.underlying3 fuel) _ _ hy5
  simp only [cs3] at r5
  obtain ⟨y6, hy6⟩ := h 6 _ rfl
  obtain ⟨x6, r6, g6⟩ := (reads_int Tryz.underlying2 fuel) _ _ hy6
  simp only [cs2] at r6
  obtain ⟨y7, hy7⟩ := h 7 _ rfl
  obtain ⟨x7, r7, g7⟩ := (reads_int Tryz.underlying2 fuel) _ _ hy7
  simp only [cs2] at r7
  obtain ⟨y8, hy8⟩ := h 8 _ rfl
  obtain ⟨x8, r8, g8⟩ := (reads_sliceF Tryz.underlying162 cs179 (by decide) el179 (fun f hf => ih f (by omega))) _ _ hy8
  simp only [cs162] at r8
  exact ⟨CExpr.mk x0 x1 x2 x3 x4 x5 x6 x7 x8, (by rw [E179_eq]; exact (rfs_chain r0 rfl (rfs_chain r1 rfl (rfs_chain r2 rfl (rfs_chain r3 rfl (rfs_chain r4 rfl (rfs_chain r5 rfl (rfs_chain r6 rfl (rfs_chain r7 rfl (rfs_chain r8 rfl (rfs_stop hl))))))))))), trivial⟩
theorem rd164 {H : Type} {enc : TypeId × Value → H} {W : World} {spare : Nat → Bool} {held : Bool} (fuel : Nat) : Reads enc Tryz.prog W spare held fuel 164 E164 (fun _ : MProt => True) := by
  induction fuel using Nat.strongRecOn with
  | _ fuel ih =>
  cases fuel with
  | zero => exact Reads.zero
  | succ fuel =>
  refine reads_struct Tryz.underlying164 cs164 (fun cs hl h => ?_)
  obtain ⟨y0, hy0⟩ := h 0 _ rfl
  obtain ⟨x0, r0, g0⟩ := (reads_int Tryz.underlying3 fuel) _ _ hy0
  simp only [cs3] at r0
  obtain ⟨y1, hy1⟩ := h 1 _ rfl
  obtain ⟨x1, r1, g1⟩ := (reads_sliceF Tryz.underlying162 cs179 (by decide) el179 (fun f hf => rd179 f)) _ _ hy1
  simp only [cs162] at r1
  exact ⟨MProt.mk x0 x1, (by exact (rfs_chain r0 rfl (rfs_chain r1 rfl (rfs_stop hl)))), trivial⟩
theorem rd192 {H : Type} {enc : TypeId × Value → H} {W : World} {spare : Nat → Bool} {held : Bool} (fuel : Nat) : Reads enc Tryz.prog W spare held fuel 192 E192 (fun _ : Check => True) := by
  induction fuel using Nat.strongRecOn with
  | _ fuel ih =>
  cases fuel with
  | zero => exact Reads.zero
  | succ fuel =>
  refine reads_struct Tryz.underlying192 cs192 (fun cs hl h => ?_)
  obtain ⟨y0, hy0⟩ := h 0 _ rfl
  obtain ⟨x0, r0, g0⟩ := (reads_int Tryz.underlying3 fuel) _ _ hy0
  simp only [cs3] at r0
  obtain ⟨y1, hy1⟩ := h 1 _ rfl
  obtain ⟨x1, r1, g1⟩ := (reads_int Tryz.underlying190 fuel) _ _ hy1
  simp only [cs190] at r1
  exact ⟨Check.mk x0 x1, (by exact (rfs_chain r0 rfl (rfs_chain r1 rfl (rfs_stop hl)))), trivial⟩
theorem rd38 {H : Type} {enc : TypeId × Value → H} {W : World} {spare : Nat → Bool} {held : Bool} (fuel : Nat) : Reads enc Tryz.prog W spare held fuel 38 E38 Sz := by
  induction fuel using Nat.strongRecOn with
  | _ fuel ih =>
  cases fuel with
  | zero => exact Reads.zero
  | succ fuel =>
  refine reads_struct Tryz.underlying38 cs38 (fun cs hl h => ?_)
  obtain ⟨y0, hy0⟩ := h 0 _ rfl
  obtain ⟨x0, r0, g0⟩ := (reads_sliceF Tryz.underlying23 cs45 (by decide) el45 (fun f hf => rd45 f)) _ _ hy0
  simp only [cs23] at r0
  obtain ⟨y1, hy1⟩ := h 1 _ rfl
  obtain ⟨x1, r1, g1⟩ := (reads_sliceF Tryz.underlying29 cs108 (by decide) el108 (fun f hf => rd108 f)) _ _ hy1
  simp only [cs29] at r1
  obtain ⟨y2, hy2⟩ := h 2 _ rfl
  obtain ⟨x2, r2, g2⟩ := (reads_sliceF Tryz.underlying30 cs189 (by decide) el189 (fun f hf => rd189 f)) _ _ hy2
  simp only [cs30] at r2
  obtain ⟨y3, hy3⟩ := h 3 _ rfl
  obtain ⟨x3, r3, g3⟩ := (reads_sliceF Tryz.underlying31 cs155 (by decide) el155 (fun f hf => rd155 f)) _ _ hy3
  simp only [cs31] at r3
  obtain ⟨y4, hy4⟩ := h 4 _ rfl
  obtain ⟨x4, r4, g4⟩ := (reads_sliceF Tryz.underlying32 cs96 (by decide) el96 (fun f hf => rd96 f)) _ _ hy4
  simp only [cs32] at r4
  obtain ⟨y5, hy5⟩ := h 5 _ rfl
  obtain ⟨x5, r5, g5⟩ := (reads_sliceF Tryz.underlying33 cs101 (by decide) el101 (fun f hf => rd101 f)) _ _ hy5
  simp only [cs33] at r5
  obtain ⟨y6, hy6⟩ := h 6 _ rfl
  obtain ⟨x6, r6, g6⟩ := (reads_sliceF Tryz.underlying34 cs140 (by decide) el140 (fun f hf => rd140 f)) _ _ hy6
  simp only [cs34] at r6
  obtain ⟨y7, hy7⟩ := h 7 _ rfl
  obtain ⟨x7, r7, g7⟩ := (reads_int Tryz.underlying3 fuel) _ _ hy7
  simp only [cs3] at r7
  obtain ⟨y8, hy8⟩ := h 8 _ rfl
  obtain ⟨x8, r8, g8⟩ := (reads_sliceF Tryz.underlying28 cs27 (by decide) el27 (fun f hf => rd27 f)) _ _ hy8
  simp only [cs28] at r8
  obtain ⟨y9, hy9⟩ := h 9 _ rfl
  obtain ⟨x9, r9, g9⟩ := (reads_sliceF Tryz.underlying35 cs164 (by decide) el164 (fun f hf => rd164 f)) _ _ hy9
  simp only [cs35] at r9
  obtain ⟨y10, hy10⟩ := h 10 _ rfl
  obtain ⟨x10, r10, g10⟩ := (reads_sliceF Tryz.underlying36 cs192 (by decide) el192 (fun f hf => rd192 f)) _ _ hy10
  simp only [cs36] at r10
  exact ⟨Text.mk x0 x1 x2 x3 x4 x5 x6 x7 x8 x9 x10, (by exact (rfs_chain r0 rfl (rfs_chain r1 rfl (rfs_chain r2 rfl (rfs_chain r3 rfl (rfs_chain r4 rfl (rfs_chain r5 rfl (rfs_chain r6 rfl (rfs_chain r7 rfl (rfs_chain r8 rfl (rfs_chain r9 rfl (rfs_chain r10 rfl (rfs_stop hl))))))))))))), ⟨g0.1, ltm g6.2, g5.1, fun l hl => ltm (g4.1 l hl).2, ltm g9.2, ltm g10.2⟩⟩
end Go.Proofs.YtkbahggepncliaaGreatDoor
