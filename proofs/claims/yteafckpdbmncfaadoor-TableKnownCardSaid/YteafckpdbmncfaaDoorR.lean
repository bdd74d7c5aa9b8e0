/- What the arguments of layer 6 read as; what is laid. -/
import Derived.Test.YteafckpdbmncfaaDoorRows
import Derived.Test.YteafckpdbmncfaaDoorX
import Derived.Test.YteafckpdbmncfaaDoorL
set_option maxRecDepth 100000
namespace Go.Proofs.YteafckpdbmncfaaDoor
open Go Go.Sk
open Go.ChangeShapes Go.WideShapes Go.ChangeAt Go.RowKit
theorem Tryd.own : ownKnob Tryd.prog.godebug = none := by kernel_rfl
theorem Tryd.laidOut : laidOutB Tryd.prog = true := by kernel_rfl
abbrev laidT : List (String × DataW Unit) := [("unicode.White_Space", Rows.laid_unicode_White_Space), ("strings.asciiSpace", Rows.laid_strings_asciiSpace)]
theorem door_met (os : Os) (args : Array Value) : laidMetH Tryd.prog laidT ((World.doorLaid Tryd.prog 400 os).forCall (fun _ _ => 0) ⟨#[], args, []⟩).memory :=
  laidMetH_of_parts3 (fuel := 8) (laidMet_of_run' 8 (by kernel_rfl) (by kernel_rfl)) (by kernel_rfl) (by kernel_rfl)
theorem gl_of_laid {W : World} (h : laidMetH Tryd.prog laidT W) : Gl (allCells W) W := by
  rw [MakeChecks.laidMetH_plain _ _ _ (by kernel_rfl)] at h
  obtain ⟨ps, ⟨g0, t0, cs0, f0, p0, q0, hg0, ht0, hv0, hd0, ⟨g1, t1, cs1, f1, p1, q1, hg1, ht1, hv1, hd1, _, _⟩, _⟩, _, _⟩ := h
  obtain rfl := Option.some.inj ((show Tryd.prog.globalNamed "strings.asciiSpace" = some 0 by kernel_rfl).symm.trans hg1)
  obtain rfl := Option.some.inj ((show (Tryd.prog.globals[0]?).map (·.type) = some 125 by kernel_rfl).symm.trans ht1)
  have e : (Rows.laid_strings_asciiSpace : DataW Unit) = (DataW.agg (asciiTab.map fun n => DataW.lit (Lit.int .u8 n)) : DataW Unit) := by kernel_rfl
  rw [e] at hd1
  have := table_laid Tryd.underlying125 Tryd.underlying5 (by kernel_rfl) (by kernel_rfl) hg1 hv1 hd1
  intro g ps hps
  cases g with
  | zero =>
    simp only [gpc, Option.some.injEq] at hps
    subst hps
    exact this
  | succ g => simp [gpc] at hps

end Go.Proofs.YteafckpdbmncfaaDoor
