/-
  DERIVED. GIVEN WITH THE SEED: THE CARDS: each row of YtiigiagchaibdaaGreatDoorRows.lean that lists a variable, with what it lists TIED to the program's text (the seventh form; the later family's looks); each row that meets fmt, with fmt's text TOLD by the authors' own Lean function (tested against real Go, not proved from fmt's source: count such statements apart). THE CARD IS WHAT COUNTS. Prove the row's statement (the work); the ties are given (YtiigiagchaibdaaGreatDoorTie.lean); close each card by the builder's one call (the guide's Derived/Test/ToyasCard.lean, 'card_holds'). Laid BY PROGRAM, IN A SANDBOX (cutbox-door.mjs). By AI agents, Wed Nov 11 2026. No macro, syntax, notation, axiom, sorry.
-/
import Derived.Test.YtiigiagchaibdaaGreatDoorRows
import GoSem.ClaimSeven
namespace Go.Proofs.YtiigiagchaibdaaGreatDoor
namespace Rows

/-- THE TIED CARD OF 'ceilinglaw34.RunKnown'. -/
def runKnownCard : Claim7 := { stood := { row := runKnownRow, standIns := [], harness := (true, "e18396590d26bd3d22c9b71e115ed9ccd907c9ff6e83a1f74e5e118e4209299a"), looks := true }, kinds := [], alts := [], laidByText := true, laidKinds := [.listed, .data, .widerDeep], laidTests := true, laidLooks := .later }
def RunKnownCardSaid : Prop := Claim7.holds Tryz.pinned (.plain (OpenSpec.ofChange runKnownSpec)) runKnownCard

/-- THE SECOND FORM's CARD OF 'ceilinglaw34.RunKnown'. -/
def runKnownUptoCard : Claim7 := { stood := { row := runKnownUptoRow, standIns := [], harness := (true, "e18396590d26bd3d22c9b71e115ed9ccd907c9ff6e83a1f74e5e118e4209299a"), looks := true }, kinds := [], alts := [], laidByText := true, laidKinds := [.listed, .data, .widerDeep], laidTests := true, laidLooks := .later }
def RunKnownUptoCardSaid : Prop := Claim7.holds Tryz.pinned (.plain (OpenSpec.upto runKnownSpec)) runKnownUptoCard
end Rows
end Go.Proofs.YtiigiagchaibdaaGreatDoor
