/-
  DERIVED. GIVEN WITH THE SEED: THE CARDS: each row of YtkbpoeellidgeaaGreatDoorRows.lean that lists a variable, with what it lists TIED to the program's text (the seventh form; the later family's looks); each row that meets fmt, with fmt's text TOLD by the authors' own Lean function (tested against real Go, not proved from fmt's source: count such statements apart). THE CARD IS WHAT COUNTS. Prove the row's statement (the work); the ties are given (YtkbpoeellidgeaaGreatDoorTie.lean); close each card by the builder's one call (the guide's Derived/Test/ToyasCard.lean, 'card_holds'). Laid BY PROGRAM, IN A SANDBOX (cutbox-door.mjs). By AI agents, Wed Nov 11 2026. No macro, syntax, notation, axiom, sorry.
-/
import Derived.Test.YtkbpoeellidgeaaGreatDoorRows
import GoSem.ClaimSeven
namespace Go.Proofs.YtkbpoeellidgeaaGreatDoor
namespace Rows

/-- THE TIED CARD OF 'ceilinglaw26.IntervalRanges'. -/
def intervalRangesCard : Claim7 := { stood := { row := intervalRangesRow, standIns := [], harness := (true, "341ea67fbc5dc2c76e7618aed8349e0350e9913d9ea94748225be012b1ef0812"), looks := false }, kinds := [], alts := [], laidByText := true, laidKinds := [.listed, .data, .widerDeep], laidTests := true, laidLooks := .later }
def IntervalRangesCardSaid : Prop := Claim7.holds Tryz.pinned (.plain (OpenSpec.ofChange intervalRangesSpec)) intervalRangesCard

/-- THE SECOND FORM's CARD OF 'ceilinglaw26.IntervalRanges'. -/
def intervalRangesUptoCard : Claim7 := { stood := { row := intervalRangesUptoRow, standIns := [], harness := (true, "341ea67fbc5dc2c76e7618aed8349e0350e9913d9ea94748225be012b1ef0812"), looks := false }, kinds := [], alts := [], laidByText := true, laidKinds := [.listed, .data, .widerDeep], laidTests := true, laidLooks := .later }
def IntervalRangesUptoCardSaid : Prop := Claim7.holds Tryz.pinned (.plain (OpenSpec.upto intervalRangesSpec)) intervalRangesUptoCard
end Rows
end Go.Proofs.YtkbpoeellidgeaaGreatDoor
