/- What the arguments of layer 28 read asz; what is laid. -/
import Derived.Test.YtkbahggepncliaaGreatDoorRows
import Derived.Test.YtkbahggepncliaaGreatDoorX
import Derived.Test.YtkbahggepncliaaGreatDoorL
set_option linter.unusedVariables false
set_option linter.unusedSimpArgs false
set_option linter.unusedSectionVars false
set_option linter.unnecessarySimpa false
set_option maxRecDepth 100000
namespace Go.Proofs.YtkbahggepncliaaGreatDoor
open Go Go.Sk
open Go.ChangeShapes Go.WideShapes Go.ChangeAt Go.RowKit
theorem Tryz.own : ownKnob Tryz.prog.godebug = none:=by kernel_rfl
theorem Tryz.laidOut : laidOutB Tryz.prog = true:=by kernel_rfl
abbrev laidT : List (String × DataW Unit):=[("unicode.White_Space",Rows.laid_unicode_White_Space),("strings.asciiSpace",Rows.laid_strings_asciiSpace),("ceiling/insn.rows",Rows.laid_ceiling_insn_rows)]
theorem door_met (os : Os) (args : Array Value) : laidMetH Tryz.prog laidT ((World.doorLaid Tryz.prog 400 os).forCall (fun _ _ => 0) ⟨#[],args,[]⟩).memory :=
  laidMetH_of_parts3 (fuel:=8) (laidMet_of_run' 8 (by kernel_rfl) (by kernel_rfl)) (by kernel_rfl) (by kernel_rfl)
theorem gl_of_laid {W : World} (h : laidMetH Tryz.prog laidT W) : Gl (allCells W) W:=by
  rw [MakeChecks.laidMetH_plain _ _ _ (by kernel_rfl)] at h
  obtain ⟨ps,⟨g0,t0,cs0,f0,p0,q0,hg0,ht0,hv0,hd0,⟨g1,t1,cs1,f1,p1,q1,hg1,ht1,hv1,hd1,⟨g2,t2,cs2,f2,p2,q2,hg2,ht2,hv2,hd2,_,_⟩,_⟩,_⟩,_,_⟩:=h
  obtain rfl:=Option.some.inj ((show Tryz.prog.globalNamed "strings.asciiSpace" = some 1 by kernel_rfl).symm.trans hg1)
  obtain rfl:=Option.some.inj ((show (Tryz.prog.globals[1]?).map (·.type) = some 277 by kernel_rfl).symm.trans ht1)
  have e1 : (Rows.laid_strings_asciiSpace : DataW Unit) = (DataW.agg (asciiTab.map fun n => DataW.lit (Lit.int .u8 n)) : DataW Unit):=by kernel_rfl
  rw [e1] at hd1
  have r1:=table_laid Tryz.underlying277 Tryz.underlying5 (by kernel_rfl) (by kernel_rfl) hg1 hv1 hd1
  obtain rfl:=Option.some.inj ((show Tryz.prog.globalNamed "ceiling/insn.rows" = some 0 by kernel_rfl).symm.trans hg2)
  obtain rfl:=Option.some.inj ((show (Tryz.prog.globals[0]?).map (·.type) = some 259 by kernel_rfl).symm.trans ht2)
  have e2 : (Rows.laid_ceiling_insn_rows : DataW Unit) = (DataW.agg (rowsTab.map fun p => DataW.agg [DataW.lit (Lit.string p.1.data.toList),DataW.lit (Lit.string p.2.data.toList)]) : DataW Unit):=by kernel_rfl
  rw [e2] at hd2
  have r2:=table_laid_ss Tryz.underlying259 Tryz.underlying224 rfl rfl rfl rfl Tryz.underlying9 (by kernel_rfl) (by kernel_rfl) (by kernel_rfl) hg2 hv2 hd2
  intro g ps hps
  cases g with
  | zero =>
    simp only [gpc,Option.some.injEq] at hps
    subst hps
    exact r2
  | succ g =>
    cases g with
    | zero =>
      simp only [gpc,Option.some.injEq] at hps
      subst hps
      exact r1
    | succ g => simp [gpc] at hps
theorem cs2 : Tryz.prog.cellsOf 2 = 1:=by kernel_rfl
theorem cs3 : Tryz.prog.cellsOf 3 = 1:=by kernel_rfl
theorem cs39 : Tryz.prog.cellsOf 39 = 16:=by kernel_rfl
theorem cs41 : Tryz.prog.cellsOf 41 = 19:=by kernel_rfl
theorem rd39 {H : Type} {enc : TypeId × Value → H} {W : World} {spare : Nat → Bool} {held : Bool} : ∀ fuel : Nat,Reads enc Tryz.prog W spare held fuel 39 E39 (fun F : Nat → Int => ∀ j,j < 16 → (fun n : Int => IntKind.i64.min ≤ n ∧ n ≤ IntKind.i64.max) (F j))
  | 0 => Reads.zero
  | fuel + 1 => reads_vec (EA:=fun n : Int => .i .i64 n) Tryz.underlying39 cs2 cs39 (reads_int Tryz.underlying2 fuel)
theorem rd41 {H : Type} {enc : TypeId × Value → H} {W : World} {spare : Nat → Bool} {held : Bool} (fuel : Nat) : Reads enc Tryz.prog W spare held fuel 41 E41 (fun _ : Regs => True):=by
  induction fuel using Nat.strongRecOn with
  | _ fuel ih =>
  cases fuel with
  | zero => exact Reads.zero
  | succ fuel =>
  refine reads_struct Tryz.underlying41 cs41 (fun cs hl h => ?_)
  obtain ⟨y0,hy0⟩:=h 0 _ rfl
  obtain ⟨x0,r0,g0⟩:=(rd39 fuel) _ _ hy0
  change RFs _ _ _ (List.take (Tryz.prog.cellsOf 39) (List.drop 0 cs)) at r0
  rw [cs39] at r0
  obtain ⟨y1,hy1⟩:=h 1 _ rfl
  obtain ⟨x1,r1,g1⟩:=(reads_int Tryz.underlying3 fuel) _ _ hy1
  simp only [cs3] at r1
  obtain ⟨y2,hy2⟩:=h 2 _ rfl
  obtain ⟨x2,r2,g2⟩:=(reads_int Tryz.underlying2 fuel) _ _ hy2
  simp only [cs2] at r2
  obtain ⟨y3,hy3⟩:=h 3 _ rfl
  obtain ⟨x3,r3,g3⟩:=(reads_int Tryz.underlying3 fuel) _ _ hy3
  simp only [cs3] at r3
  exact ⟨Regs.mk x0 x1 x2 x3,(by exact (rfs_chain r0 rfl (rfs_chain r1 rfl (rfs_chain r2 rfl (rfs_chain r3 rfl (rfs_stop hl)))))),trivial⟩
end Go.Proofs.YtkbahggepncliaaGreatDoor
