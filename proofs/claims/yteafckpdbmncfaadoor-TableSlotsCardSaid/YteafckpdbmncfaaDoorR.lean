/- What the arguments of layer 6 read as; what is laid. -/
import Derived.Test.YteafckpdbmncfaaDoorRows
import Derived.Test.YteafckpdbmncfaaDoorX
import Derived.Test.YteafckpdbmncfaaDoorL
set_option maxRecDepth 100000
namespace Go.Proofs.YteafckpdbmncfaaDoor
open Go Go.Sk
open Go.ChangeShapes Go.WideShapes Go.ChangeAt Go.RowKit
theorem Tryd.own : ownKnob Tryd.prog.godebug = none := by kernel_rfl
theorem Tryd.laidOut : laidOutB Tryd.prog = true := by kernel_rfl
abbrev laidT : List (String × DataW Unit) := [("unicode.White_Space", Rows.laid_unicode_White_Space), ("strings.asciiSpace", Rows.laid_strings_asciiSpace)]
theorem door_met (os : Os) (args : Array Value) : laidMetH Tryd.prog laidT ((World.doorLaid Tryd.prog 400 os).forCall (fun _ _ => 0) ⟨#[], args, []⟩).memory :=
  laidMetH_of_parts3 (fuel := 8) (laidMet_of_run' 8 (by kernel_rfl) (by kernel_rfl)) (by kernel_rfl) (by kernel_rfl)
theorem gl_of_laid {W : World} (h : laidMetH Tryd.prog laidT W) : Gl (allCells W) W := by
  rw [MakeChecks.laidMetH_plain _ _ _ (by kernel_rfl)] at h
  obtain ⟨ps, ⟨g0, t0, cs0, f0, p0, q0, hg0, ht0, hv0, hd0, ⟨g1, t1, cs1, f1, p1, q1, hg1, ht1, hv1, hd1, _, _⟩, _⟩, _, _⟩ := h
  obtain rfl := Option.some.inj ((show Tryd.prog.globalNamed "strings.asciiSpace" = some 0 by kernel_rfl).symm.trans hg1)
  obtain rfl := Option.some.inj ((show (Tryd.prog.globals[0]?).map (·.type) = some 125 by kernel_rfl).symm.trans ht1)
  have e : (Rows.laid_strings_asciiSpace : DataW Unit) = (DataW.agg (asciiTab.map fun n => DataW.lit (Lit.int .u8 n)) : DataW Unit) := by kernel_rfl
  rw [e] at hd1
  have := table_laid Tryd.underlying125 Tryd.underlying5 (by kernel_rfl) (by kernel_rfl) hg1 hv1 hd1
  intro g ps hps
  cases g with
  | zero =>
    simp only [gpc, Option.some.injEq] at hps
    subst hps
    exact this
  | succ g => simp [gpc] at hps

theorem cs2 : Tryd.prog.cellsOf 2 = 1 := by kernel_rfl
theorem cs3 : Tryd.prog.cellsOf 3 = 1 := by kernel_rfl
theorem cs4 : Tryd.prog.cellsOf 4 = 1 := by kernel_rfl
theorem cs5 : Tryd.prog.cellsOf 5 = 1 := by kernel_rfl
theorem cs9 : Tryd.prog.cellsOf 9 = 1 := by kernel_rfl
theorem cs22 : Tryd.prog.cellsOf 22 = 1 := by kernel_rfl
theorem cs23 : Tryd.prog.cellsOf 23 = 1 := by kernel_rfl
theorem cs24 : Tryd.prog.cellsOf 24 = 1 := by kernel_rfl
theorem cs25 : Tryd.prog.cellsOf 25 = 1 := by kernel_rfl
theorem cs26 : Tryd.prog.cellsOf 26 = 1 := by kernel_rfl
theorem cs40 : Tryd.prog.cellsOf 40 = 3 := by kernel_rfl
theorem cs41 : Tryd.prog.cellsOf 41 = 1 := by kernel_rfl
theorem cs49 : Tryd.prog.cellsOf 49 = 1 := by kernel_rfl
theorem cs50 : Tryd.prog.cellsOf 50 = 1 := by kernel_rfl
theorem cs51 : Tryd.prog.cellsOf 51 = 1 := by kernel_rfl
theorem cs52 : Tryd.prog.cellsOf 52 = 1 := by kernel_rfl
theorem cs54 : Tryd.prog.cellsOf 54 = 18 := by kernel_rfl
theorem cs56 : Tryd.prog.cellsOf 56 = 6 := by kernel_rfl
theorem cs28 : Tryd.prog.cellsOf 28 = 5 := by kernel_rfl
theorem el2 : ∀ x, (E2 x).length = 1 := fun _ => rfl
theorem el3 : ∀ x, (E3 x).length = 1 := fun _ => rfl
theorem el9 : ∀ x, (E9 x).length = 1 := fun _ => rfl
theorem el40 : ∀ x, (E40 x).length = 3 := fun _ => rfl
theorem el56 : ∀ x, (E56 x).length = 6 := fun _ => rfl
theorem el54 : ∀ x, (E54 x).length = 18 := fun _ => rfl
theorem rd2 {H : Type} {enc : TypeId × Value → H} {W : World} {spare : Nat → Bool} {held : Bool} (fuel : Nat) : Reads enc Tryd.prog W spare held fuel 2 E2 (fun n : Int => IntKind.i64.min ≤ n ∧ n ≤ IntKind.i64.max) := (reads_int Tryd.underlying2 fuel)
theorem rd3 {H : Type} {enc : TypeId × Value → H} {W : World} {spare : Nat → Bool} {held : Bool} (fuel : Nat) : Reads enc Tryd.prog W spare held fuel 3 E3 (fun n : Int => IntKind.i64.min ≤ n ∧ n ≤ IntKind.i64.max) := (reads_int Tryd.underlying3 fuel)
theorem rd9 {H : Type} {enc : TypeId × Value → H} {W : World} {spare : Nat → Bool} {held : Bool} (fuel : Nat) : Reads enc Tryd.prog W spare held fuel 9 E9 (fun s : ByteArray => s.size ≤ maxLen) := (reads_str Tryd.underlying9 fuel)
theorem rd40 {H : Type} {enc : TypeId × Value → H} {W : World} {spare : Nat → Bool} {held : Bool} (fuel : Nat) : Reads enc Tryd.prog W spare held fuel 40 E40 GSub := by
  induction fuel using Nat.strongRecOn with
  | _ fuel ih =>
  cases fuel with
  | zero => exact Reads.zero
  | succ fuel =>
  refine reads_struct Tryd.underlying40 cs40 (fun cs hl h => ?_)
  obtain ⟨y0, hy0⟩ := h 0 _ rfl
  obtain ⟨x0, r0, g0⟩ := (reads_int Tryd.underlying3 fuel) _ _ hy0
  simp only [] at r0
  obtain ⟨y1, hy1⟩ := h 1 _ rfl
  obtain ⟨x1, r1, g1⟩ := (reads_int Tryd.underlying2 fuel) _ _ hy1
  simp only [] at r1
  obtain ⟨y2, hy2⟩ := h 2 _ rfl
  obtain ⟨x2, r2, g2⟩ := (reads_int Tryd.underlying2 fuel) _ _ hy2
  simp only [] at r2
  exact ⟨Subt.mk x0 x1 x2, (by exact (rfs_chain r0 rfl (rfs_chain r1 rfl (rfs_chain r2 rfl (rfs_stop hl))))), .mk ⟨g0.1, g0.2⟩ ⟨g1.1, g1.2⟩ ⟨g2.1, g2.2⟩⟩
theorem rd56 {H : Type} {enc : TypeId × Value → H} {W : World} {spare : Nat → Bool} {held : Bool} (fuel : Nat) : Reads enc Tryd.prog W spare held fuel 56 E56 GComp := by
  induction fuel using Nat.strongRecOn with
  | _ fuel ih =>
  cases fuel with
  | zero => exact Reads.zero
  | succ fuel =>
  refine reads_struct Tryd.underlying56 cs56 (fun cs hl h => ?_)
  obtain ⟨y0, hy0⟩ := h 0 _ rfl
  obtain ⟨x0, r0, g0⟩ := (reads_str Tryd.underlying9 fuel) _ _ hy0
  simp only [] at r0
  obtain ⟨y1, hy1⟩ := h 1 _ rfl
  obtain ⟨x1, r1, g1⟩ := (reads_int Tryd.underlying3 fuel) _ _ hy1
  simp only [] at r1
  obtain ⟨y2, hy2⟩ := h 2 _ rfl
  obtain ⟨x2, r2, g2⟩ := (reads_bool Tryd.underlying4 fuel) _ _ hy2
  simp only [] at r2
  obtain ⟨y3, hy3⟩ := h 3 _ rfl
  obtain ⟨x3, r3, g3⟩ := (reads_int Tryd.underlying2 fuel) _ _ hy3
  simp only [] at r3
  obtain ⟨y4, hy4⟩ := h 4 _ rfl
  obtain ⟨x4, r4, g4⟩ := (reads_bool Tryd.underlying4 fuel) _ _ hy4
  simp only [] at r4
  obtain ⟨y5, hy5⟩ := h 5 _ rfl
  obtain ⟨x5, r5, g5⟩ := (reads_sliceF Tryd.underlying41 cs2 (by decide) el2 (fun f hf => rd2 f)) _ _ hy5
  simp only [] at r5
  exact ⟨CompRow.mk x0 x1 x2 x3 x4 x5, (by exact (rfs_chain r0 rfl (rfs_chain r1 rfl (rfs_chain r2 rfl (rfs_chain r3 rfl (rfs_chain r4 rfl (rfs_chain r5 rfl (rfs_stop hl)))))))), .mk ⟨g1.1, g1.2⟩ ⟨g3.1, g3.2⟩ ⟨g5.2, fun x hx => ⟨(g5.1 x hx).1, (g5.1 x hx).2⟩⟩⟩
theorem rd54 {H : Type} {enc : TypeId × Value → H} {W : World} {spare : Nat → Bool} {held : Bool} (fuel : Nat) : Reads enc Tryd.prog W spare held fuel 54 E54 GTy := by
  induction fuel using Nat.strongRecOn with
  | _ fuel ih =>
  cases fuel with
  | zero => exact Reads.zero
  | succ fuel =>
  refine reads_struct Tryd.underlying54 cs54 (fun cs hl h => ?_)
  obtain ⟨y0, hy0⟩ := h 0 _ rfl
  obtain ⟨x0, r0, g0⟩ := (reads_int Tryd.underlying49 fuel) _ _ hy0
  simp only [] at r0
  obtain ⟨y1, hy1⟩ := h 1 _ rfl
  obtain ⟨x1, r1, g1⟩ := (reads_str Tryd.underlying9 fuel) _ _ hy1
  simp only [] at r1
  obtain ⟨y2, hy2⟩ := h 2 _ rfl
  obtain ⟨x2, r2, g2⟩ := (reads_int Tryd.underlying3 fuel) _ _ hy2
  simp only [] at r2
  obtain ⟨y3, hy3⟩ := h 3 _ rfl
  obtain ⟨x3, r3, g3⟩ := (reads_int Tryd.underlying3 fuel) _ _ hy3
  simp only [] at r3
  obtain ⟨y4, hy4⟩ := h 4 _ rfl
  obtain ⟨x4, r4, g4⟩ := (reads_sliceF Tryd.underlying50 cs9 (by decide) el9 (fun f hf => rd9 f)) _ _ hy4
  simp only [] at r4
  obtain ⟨y5, hy5⟩ := h 5 _ rfl
  obtain ⟨x5, r5, g5⟩ := (reads_int Tryd.underlying3 fuel) _ _ hy5
  simp only [] at r5
  obtain ⟨y6, hy6⟩ := h 6 _ rfl
  obtain ⟨x6, r6, g6⟩ := (reads_int Tryd.underlying3 fuel) _ _ hy6
  simp only [] at r6
  obtain ⟨y7, hy7⟩ := h 7 _ rfl
  obtain ⟨x7, r7, g7⟩ := (reads_int Tryd.underlying3 fuel) _ _ hy7
  simp only [] at r7
  obtain ⟨y8, hy8⟩ := h 8 _ rfl
  obtain ⟨x8, r8, g8⟩ := (reads_str Tryd.underlying9 fuel) _ _ hy8
  simp only [] at r8
  obtain ⟨y9, hy9⟩ := h 9 _ rfl
  obtain ⟨x9, r9, g9⟩ := (reads_bool Tryd.underlying4 fuel) _ _ hy9
  simp only [] at r9
  obtain ⟨y10, hy10⟩ := h 10 _ rfl
  obtain ⟨x10, r10, g10⟩ := (reads_int Tryd.underlying2 fuel) _ _ hy10
  simp only [] at r10
  obtain ⟨y11, hy11⟩ := h 11 _ rfl
  obtain ⟨x11, r11, g11⟩ := (reads_sliceF Tryd.underlying51 cs56 (by decide) el56 (fun f hf => rd56 f)) _ _ hy11
  simp only [] at r11
  obtain ⟨y12, hy12⟩ := h 12 _ rfl
  obtain ⟨x12, r12, g12⟩ := (reads_int Tryd.underlying3 fuel) _ _ hy12
  simp only [] at r12
  obtain ⟨y13, hy13⟩ := h 13 _ rfl
  obtain ⟨x13, r13, g13⟩ := (reads_int Tryd.underlying52 fuel) _ _ hy13
  simp only [] at r13
  obtain ⟨y14, hy14⟩ := h 14 _ rfl
  obtain ⟨x14, r14, g14⟩ := (reads_bool Tryd.underlying4 fuel) _ _ hy14
  simp only [] at r14
  obtain ⟨y15, hy15⟩ := h 15 _ rfl
  obtain ⟨x15, r15, g15⟩ := (reads_int Tryd.underlying3 fuel) _ _ hy15
  simp only [] at r15
  obtain ⟨y16, hy16⟩ := h 16 _ rfl
  obtain ⟨x16, r16, g16⟩ := (reads_int Tryd.underlying3 fuel) _ _ hy16
  simp only [] at r16
  obtain ⟨y17, hy17⟩ := h 17 _ rfl
  obtain ⟨x17, r17, g17⟩ := (reads_int Tryd.underlying3 fuel) _ _ hy17
  simp only [] at r17
  exact ⟨Ty.mk x0 x1 x2 x3 x4 x5 x6 x7 x8 x9 x10 x11 x12 x13 x14 x15 x16 x17, (by exact (rfs_chain r0 rfl (rfs_chain r1 rfl (rfs_chain r2 rfl (rfs_chain r3 rfl (rfs_chain r4 rfl (rfs_chain r5 rfl (rfs_chain r6 rfl (rfs_chain r7 rfl (rfs_chain r8 rfl (rfs_chain r9 rfl (rfs_chain r10 rfl (rfs_chain r11 rfl (rfs_chain r12 rfl (rfs_chain r13 rfl (rfs_chain r14 rfl (rfs_chain r15 rfl (rfs_chain r16 rfl (rfs_chain r17 rfl (rfs_stop hl)))))))))))))))))))), .mk ⟨g0.1, g0.2⟩ g4.2 g11.2 g11.1 ⟨g2.1, g2.2⟩ ⟨g3.1, g3.2⟩ ⟨g5.1, g5.2⟩ ⟨g6.1, g6.2⟩ ⟨g7.1, g7.2⟩ ⟨g10.1, g10.2⟩ ⟨g12.1, g12.2⟩⟩
theorem rd28 {H : Type} {enc : TypeId × Value → H} {W : World} {spare : Nat → Bool} {held : Bool} (fuel : Nat) : Reads enc Tryd.prog W spare held fuel 28 E28 GTab := by
  induction fuel using Nat.strongRecOn with
  | _ fuel ih =>
  cases fuel with
  | zero => exact Reads.zero
  | succ fuel =>
  refine reads_struct Tryd.underlying28 cs28 (fun cs hl h => ?_)
  obtain ⟨y0, hy0⟩ := h 0 _ rfl
  obtain ⟨x0, r0, g0⟩ := (reads_sliceF Tryd.underlying22 cs54 (by decide) el54 (fun f hf => rd54 f)) _ _ hy0
  simp only [] at r0
  obtain ⟨y1, hy1⟩ := h 1 _ rfl
  obtain ⟨x1, r1, g1⟩ := (reads_sliceF Tryd.underlying23 cs40 (by decide) el40 (fun f hf => rd40 f)) _ _ hy1
  simp only [] at r1
  obtain ⟨y2, hy2⟩ := h 2 _ rfl
  obtain ⟨x2, r2, g2⟩ := (reads_slv Tryd.underlying24 fuel) _ _ hy2
  simp only [] at r2
  obtain ⟨y3, hy3⟩ := h 3 _ rfl
  obtain ⟨x3, r3, g3⟩ := (reads_slv Tryd.underlying25 fuel) _ _ hy3
  simp only [] at r3
  obtain ⟨y4, hy4⟩ := h 4 _ rfl
  obtain ⟨x4, r4, g4⟩ := (reads_slv Tryd.underlying26 fuel) _ _ hy4
  simp only [] at r4
  exact ⟨Table.mk x0 x1 x2 x3 x4, (by exact (rfs_chain r0 rfl (rfs_chain r1 rfl (rfs_chain r2 rfl (rfs_chain r3 rfl (rfs_chain r4 rfl (rfs_stop hl))))))), .mk g0.1 g1.1 g0.2 g1.2⟩
end Go.Proofs.YteafckpdbmncfaaDoor
