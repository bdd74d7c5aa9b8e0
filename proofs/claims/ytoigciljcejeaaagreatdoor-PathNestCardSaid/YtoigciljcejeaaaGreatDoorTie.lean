/-
  DERIVED. GIVEN WITH THE SEED: THE PROGRAM's TIES (one call each: nine closed facts by the kernel) AND EACH ROW's TIE, after the 31st guide's Derived/Test/Toyas{Tie, Card}.lean. No idea stands in it: it is a product of the set-up. Laid BY PROGRAM, IN A SANDBOX (cutbox-door.mjs). By AI agents, Wed Nov 11 2026. No macro, syntax, notation, axiom, sorry.
-/
import Derived.Test.YtoigciljcejeaaaGreatDoorRows
import Derived.LaidByTextLater
import Derived.SevenTiedAt
import Derived.LaidSub
import Derived.LaidOnce
namespace Go.Proofs.YtoigciljcejeaaaGreatDoor
open Go
set_option maxRecDepth 100000
theorem seatTie1 : Tryz.prog.laidByTextLater [("unicode.White_Space", Rows.laid_unicode_White_Space), ("strings.asciiSpace", Rows.laid_strings_asciiSpace), ("ceiling/insn.rows", Rows.laid_ceiling_insn_rows), ("ceiling/clock.costs", Rows.laid_ceiling_clock_costs)] [.listed, .data, .widerDeep, .data] true :=
  Program.laidByTextLater_by_one 100 8 257 (by kernel_rfl) (by kernel_rfl) (by kernel_rfl) (by kernel_rfl) (by kernel_rfl) (by kernel_rfl) (fun _ _ => by kernel_rfl)
theorem noOwnUnsafe : Tryz.pinned.checked.prog.headLifts.contains "ownunsafe" = false := by kernel_rfl
theorem tie : Tryz.prog.laidByTextLater [("unicode.White_Space", Rows.laid_unicode_White_Space), ("strings.asciiSpace", Rows.laid_strings_asciiSpace), ("ceiling/insn.rows", Rows.laid_ceiling_insn_rows), ("ceiling/clock.costs", Rows.laid_ceiling_clock_costs)] [.listed, .data, .widerDeep, .data] true :=
  Program.laidByTextLater.sub seatTie1 ["unicode.White_Space", "strings.asciiSpace", "ceiling/insn.rows", "ceiling/clock.costs"] (by kernel_rfl) (by kernel_rfl)
theorem pathNest_row_tie : Rows.pathNestRow.laidByTextAt .later Tryz.pinned [.listed, .data, .widerDeep, .data] true :=
  OpenClaim.laidByTextAt_later rfl rfl tie noOwnUnsafe
theorem pathNestUpto_row_tie : Rows.pathNestUptoRow.laidByTextAt .later Tryz.pinned [.listed, .data, .widerDeep, .data] true :=
  OpenClaim.laidByTextAt_later rfl rfl tie noOwnUnsafe
end Go.Proofs.YtoigciljcejeaaaGreatDoor
