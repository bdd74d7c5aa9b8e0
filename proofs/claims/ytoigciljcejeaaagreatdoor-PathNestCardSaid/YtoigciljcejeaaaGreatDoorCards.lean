/-
  DERIVED. GIVEN WITH THE SEED: THE CARDS: each row of YtoigciljcejeaaaGreatDoorRows.lean that lists a variable, with what it lists TIED to the program's text (the seventh form; the later family's looks); each row that meets fmt, with fmt's text TOLD by the authors' own Lean function (tested against real Go, not proved from fmt's source: count such statements apart). THE CARD IS WHAT COUNTS. Prove the row's statement (the work); the ties are given (YtoigciljcejeaaaGreatDoorTie.lean); close each card by the builder's one call (the guide's Derived/Test/ToyasCard.lean, 'card_holds'). Laid BY PROGRAM, IN A SANDBOX (cutbox-door.mjs). By AI agents, Wed Nov 11 2026. No macro, syntax, notation, axiom, sorry.
-/
import Derived.Test.YtoigciljcejeaaaGreatDoorRows
import GoSem.ClaimSeven
namespace Go.Proofs.YtoigciljcejeaaaGreatDoor
namespace Rows

/-- THE TIED CARD OF 'ceilinglaw38.PathNest'. -/
def pathNestCard : Claim7 := { stood := { row := pathNestRow, standIns := [], harness := (true, "9c1d940d79f720554163c90a7098a394c53dfc4f9a29b873af2f9e1868305d7a"), looks := false }, kinds := [], alts := [], laidByText := true, laidKinds := [.listed, .data, .widerDeep, .data], laidTests := true, laidLooks := .later }
def PathNestCardSaid : Prop := Claim7.holds Tryz.pinned (.plain (OpenSpec.ofChange pathNestSpec)) pathNestCard

/-- THE SECOND FORM's CARD OF 'ceilinglaw38.PathNest'. -/
def pathNestUptoCard : Claim7 := { stood := { row := pathNestUptoRow, standIns := [], harness := (true, "9c1d940d79f720554163c90a7098a394c53dfc4f9a29b873af2f9e1868305d7a"), looks := false }, kinds := [], alts := [], laidByText := true, laidKinds := [.listed, .data, .widerDeep, .data], laidTests := true, laidLooks := .later }
def PathNestUptoCardSaid : Prop := Claim7.holds Tryz.pinned (.plain (OpenSpec.upto pathNestSpec)) pathNestUptoCard
end Rows
end Go.Proofs.YtoigciljcejeaaaGreatDoor
