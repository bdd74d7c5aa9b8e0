/-
  DERIVED. GIVEN WITH THE SEED: THE CARDS: each row of YtlkhnkpflmpjhaaGreatDoorRows.lean that lists a variable, with what it lists TIED to the program's text (the seventh form; the later family's looks); each row that meets fmt, with fmt's text TOLD by the authors' own Lean function (tested against real Go, not proved from fmt's source: count such statements apart). THE CARD IS WHAT COUNTS. Prove the row's statement (the work); the ties are given (YtlkhnkpflmpjhaaGreatDoorTie.lean); close each card by the builder's one call (the guide's Derived/Test/ToyasCard.lean, 'card_holds'). Laid BY PROGRAM, IN A SANDBOX (cutbox-door.mjs). By AI agents, Wed Nov 11 2026. No macro, syntax, notation, axiom, sorry.
-/
import Derived.Test.YtlkhnkpflmpjhaaGreatDoorRows
import GoSem.ClaimSeven
namespace Go.Proofs.YtlkhnkpflmpjhaaGreatDoor
namespace Rows

/-- THE TIED CARD OF 'ceilinglaw27.PruneMoved'. -/
def pruneMovedCard : Claim7 := { stood := { row := pruneMovedRow, standIns := [], harness := (true, "7a6b42d6e885db3699120fec0cccbaf9276761bb48570981258e40085d4f1b69"), looks := false }, kinds := [], alts := [], laidByText := true, laidKinds := [.listed, .data, .widerDeep], laidTests := true, laidLooks := .later }
def PruneMovedCardSaid : Prop := Claim7.holds Tryz.pinned (.plain (OpenSpec.ofChange pruneMovedSpec)) pruneMovedCard

/-- THE TIED CARD OF 'ceilinglaw27.PruneLeaves'. -/
def pruneLeavesCard : Claim7 := { stood := { row := pruneLeavesRow, standIns := [], harness := (true, "7a6b42d6e885db3699120fec0cccbaf9276761bb48570981258e40085d4f1b69"), looks := false }, kinds := [], alts := [], laidByText := true, laidKinds := [.listed, .data, .widerDeep], laidTests := true, laidLooks := .later }
def PruneLeavesCardSaid : Prop := Claim7.holds Tryz.pinned (.plain (OpenSpec.ofChange pruneLeavesSpec)) pruneLeavesCard

/-- THE SECOND FORM's CARD OF 'ceilinglaw27.PruneMoved'. -/
def pruneMovedUptoCard : Claim7 := { stood := { row := pruneMovedUptoRow, standIns := [], harness := (true, "7a6b42d6e885db3699120fec0cccbaf9276761bb48570981258e40085d4f1b69"), looks := false }, kinds := [], alts := [], laidByText := true, laidKinds := [.listed, .data, .widerDeep], laidTests := true, laidLooks := .later }
def PruneMovedUptoCardSaid : Prop := Claim7.holds Tryz.pinned (.plain (OpenSpec.upto pruneMovedSpec)) pruneMovedUptoCard

/-- THE SECOND FORM's CARD OF 'ceilinglaw27.PruneLeaves'. -/
def pruneLeavesUptoCard : Claim7 := { stood := { row := pruneLeavesUptoRow, standIns := [], harness := (true, "7a6b42d6e885db3699120fec0cccbaf9276761bb48570981258e40085d4f1b69"), looks := false }, kinds := [], alts := [], laidByText := true, laidKinds := [.listed, .data, .widerDeep], laidTests := true, laidLooks := .later }
def PruneLeavesUptoCardSaid : Prop := Claim7.holds Tryz.pinned (.plain (OpenSpec.upto pruneLeavesSpec)) pruneLeavesUptoCard
end Rows
end Go.Proofs.YtlkhnkpflmpjhaaGreatDoor
