/-
  DERIVED. GIVEN WITH THE SEED: THE PROGRAM's TIES (one call each: nine closed facts by the kernel) AND EACH ROW's TIE, after the 31st guide's Derived/Test/Toyas{Tie, Card}.lean. No idea stands in it: it is a product of the set-up. Laid BY PROGRAM, IN A SANDBOX (cutbox-door.mjs). By AI agents, Wed Nov 11 2026. No macro, syntax, notation, axiom, sorry.
-/
import Derived.Test.YtpodhdopgcedlaaGreatDoorRows
import Derived.LaidByTextLater
import Derived.SevenTiedAt
import Derived.LaidSub
import Derived.LaidOnce
namespace Go.Proofs.YtpodhdopgcedlaaGreatDoor
open Go
set_option maxRecDepth 100000
theorem seatTie1 : Tryz.prog.laidByTextLater [("unicode.White_Space", Rows.laid_unicode_White_Space), ("strings.asciiSpace", Rows.laid_strings_asciiSpace), ("ceiling/insn.rows", Rows.laid_ceiling_insn_rows)] [.listed, .data, .widerDeep] true :=
  Program.laidByTextLater_by_one 95 8 257 (by kernel_rfl) (by kernel_rfl) (by kernel_rfl) (by kernel_rfl) (by kernel_rfl) (by kernel_rfl) (fun _ _ => by kernel_rfl)
theorem noOwnUnsafe : Tryz.pinned.checked.prog.headLifts.contains "ownunsafe" = false := by kernel_rfl
theorem tie : Tryz.prog.laidByTextLater [("unicode.White_Space", Rows.laid_unicode_White_Space), ("strings.asciiSpace", Rows.laid_strings_asciiSpace), ("ceiling/insn.rows", Rows.laid_ceiling_insn_rows)] [.listed, .data, .widerDeep] true :=
  Program.laidByTextLater.sub seatTie1 ["unicode.White_Space", "strings.asciiSpace", "ceiling/insn.rows"] (by kernel_rfl) (by kernel_rfl)
theorem flowNext_row_tie : Rows.flowNextRow.laidByTextAt .later Tryz.pinned [.listed, .data, .widerDeep] true :=
  OpenClaim.laidByTextAt_later rfl rfl tie noOwnUnsafe
theorem flowGraphs_row_tie : Rows.flowGraphsRow.laidByTextAt .later Tryz.pinned [.listed, .data, .widerDeep] true :=
  OpenClaim.laidByTextAt_later rfl rfl tie noOwnUnsafe
theorem flowCovers_row_tie : Rows.flowCoversRow.laidByTextAt .later Tryz.pinned [.listed, .data, .widerDeep] true :=
  OpenClaim.laidByTextAt_later rfl rfl tie noOwnUnsafe
theorem flowDoms_row_tie : Rows.flowDomsRow.laidByTextAt .later Tryz.pinned [.listed, .data, .widerDeep] true :=
  OpenClaim.laidByTextAt_later rfl rfl tie noOwnUnsafe
theorem flowNested_row_tie : Rows.flowNestedRow.laidByTextAt .later Tryz.pinned [.listed, .data, .widerDeep] true :=
  OpenClaim.laidByTextAt_later rfl rfl tie noOwnUnsafe
theorem flowNextUpto_row_tie : Rows.flowNextUptoRow.laidByTextAt .later Tryz.pinned [.listed, .data, .widerDeep] true :=
  OpenClaim.laidByTextAt_later rfl rfl tie noOwnUnsafe
theorem flowGraphsUpto_row_tie : Rows.flowGraphsUptoRow.laidByTextAt .later Tryz.pinned [.listed, .data, .widerDeep] true :=
  OpenClaim.laidByTextAt_later rfl rfl tie noOwnUnsafe
theorem flowCoversUpto_row_tie : Rows.flowCoversUptoRow.laidByTextAt .later Tryz.pinned [.listed, .data, .widerDeep] true :=
  OpenClaim.laidByTextAt_later rfl rfl tie noOwnUnsafe
theorem flowDomsUpto_row_tie : Rows.flowDomsUptoRow.laidByTextAt .later Tryz.pinned [.listed, .data, .widerDeep] true :=
  OpenClaim.laidByTextAt_later rfl rfl tie noOwnUnsafe
theorem flowNestedUpto_row_tie : Rows.flowNestedUptoRow.laidByTextAt .later Tryz.pinned [.listed, .data, .widerDeep] true :=
  OpenClaim.laidByTextAt_later rfl rfl tie noOwnUnsafe
end Go.Proofs.YtpodhdopgcedlaaGreatDoor
