/-
  DERIVED. GIVEN WITH THE SEED: THE CARDS: each row of YtejcfgjpdocaoaaGreatDoorRows.lean that lists a variable, with what it lists TIED to the program's text (the seventh form; the later family's looks); each row that meets fmt, with fmt's text TOLD by the authors' own Lean function (tested against real Go, not proved from fmt's source: count such statements apart). THE CARD IS WHAT COUNTS. Prove the row's statement (the work); the ties are given (YtejcfgjpdocaoaaGreatDoorTie.lean); close each card by the builder's one call (the guide's Derived/Test/ToyasCard.lean, 'card_holds'). Laid BY PROGRAM, IN A SANDBOX (cutbox-door.mjs). By AI agents, Wed Nov 11 2026. No macro, syntax, notation, axiom, sorry.
-/
import Derived.Test.YtejcfgjpdocaoaaGreatDoorRows
import GoSem.ClaimSeven
namespace Go.Proofs.YtejcfgjpdocaoaaGreatDoor
namespace Rows

/-- THE TIED CARD OF 'ceilinglaw23.TextMay'. -/
def textMayCard : Claim7 := { stood := { row := textMayRow, standIns := [], harness := (true, "526d030c42a6d91ba516f7b8a0b699c1f497b54958480b9a8c28503da73e808f"), looks := false }, kinds := [], alts := [], laidByText := true, laidKinds := [.listed, .data, .widerDeep], laidTests := true, laidLooks := .later }
def TextMayCardSaid : Prop := Claim7.holds Tryz.pinned (.plain (OpenSpec.ofChange textMaySpec)) textMayCard

/-- THE TIED CARD OF 'ceilinglaw23.TextAt'. -/
def textAtCard : Claim7 := { stood := { row := textAtRow, standIns := [], harness := (true, "526d030c42a6d91ba516f7b8a0b699c1f497b54958480b9a8c28503da73e808f"), looks := false }, kinds := [], alts := [], laidByText := true, laidKinds := [.listed, .data, .widerDeep], laidTests := true, laidLooks := .later }
def TextAtCardSaid : Prop := Claim7.holds Tryz.pinned (.plain (OpenSpec.ofChange textAtSpec)) textAtCard

/-- THE TIED CARD OF 'ceilinglaw23.TextGet'. -/
def textGetCard : Claim7 := { stood := { row := textGetRow, standIns := [], harness := (true, "526d030c42a6d91ba516f7b8a0b699c1f497b54958480b9a8c28503da73e808f"), looks := false }, kinds := [], alts := [], laidByText := true, laidKinds := [.listed, .data, .widerDeep], laidTests := true, laidLooks := .later }
def TextGetCardSaid : Prop := Claim7.holds Tryz.pinned (.plain (OpenSpec.ofChange textGetSpec)) textGetCard

/-- THE TIED CARD OF 'ceilinglaw23.TextBack'. -/
def textBackCard : Claim7 := { stood := { row := textBackRow, standIns := [], harness := (true, "526d030c42a6d91ba516f7b8a0b699c1f497b54958480b9a8c28503da73e808f"), looks := false }, kinds := [], alts := [], laidByText := true, laidKinds := [.listed, .data, .widerDeep], laidTests := true, laidLooks := .later }
def TextBackCardSaid : Prop := Claim7.holds Tryz.pinned (.plain (OpenSpec.ofChange textBackSpec)) textBackCard

/-- THE TIED CARD OF 'ceilinglaw23.TextTwice'. -/
def textTwiceCard : Claim7 := { stood := { row := textTwiceRow, standIns := [], harness := (true, "526d030c42a6d91ba516f7b8a0b699c1f497b54958480b9a8c28503da73e808f"), looks := false }, kinds := [], alts := [], laidByText := true, laidKinds := [.listed, .data, .widerDeep], laidTests := true, laidLooks := .later }
def TextTwiceCardSaid : Prop := Claim7.holds Tryz.pinned (.plain (OpenSpec.ofChange textTwiceSpec)) textTwiceCard

/-- THE SECOND FORM's CARD OF 'ceilinglaw23.TextMay'. -/
def textMayUptoCard : Claim7 := { stood := { row := textMayUptoRow, standIns := [], harness := (true, "526d030c42a6d91ba516f7b8a0b699c1f497b54958480b9a8c28503da73e808f"), looks := false }, kinds := [], alts := [], laidByText := true, laidKinds := [.listed, .data, .widerDeep], laidTests := true, laidLooks := .later }
def TextMayUptoCardSaid : Prop := Claim7.holds Tryz.pinned (.plain (OpenSpec.upto textMaySpec)) textMayUptoCard

/-- THE SECOND FORM's CARD OF 'ceilinglaw23.TextAt'. -/
def textAtUptoCard : Claim7 := { stood := { row := textAtUptoRow, standIns := [], harness := (true, "526d030c42a6d91ba516f7b8a0b699c1f497b54958480b9a8c28503da73e808f"), looks := false }, kinds := [], alts := [], laidByText := true, laidKinds := [.listed, .data, .widerDeep], laidTests := true, laidLooks := .later }
def TextAtUptoCardSaid : Prop := Claim7.holds Tryz.pinned (.plain (OpenSpec.upto textAtSpec)) textAtUptoCard

/-- THE SECOND FORM's CARD OF 'ceilinglaw23.TextGet'. -/
def textGetUptoCard : Claim7 := { stood := { row := textGetUptoRow, standIns := [], harness := (true, "526d030c42a6d91ba516f7b8a0b699c1f497b54958480b9a8c28503da73e808f"), looks := false }, kinds := [], alts := [], laidByText := true, laidKinds := [.listed, .data, .widerDeep], laidTests := true, laidLooks := .later }
def TextGetUptoCardSaid : Prop := Claim7.holds Tryz.pinned (.plain (OpenSpec.upto textGetSpec)) textGetUptoCard

/-- THE SECOND FORM's CARD OF 'ceilinglaw23.TextBack'. -/
def textBackUptoCard : Claim7 := { stood := { row := textBackUptoRow, standIns := [], harness := (true, "526d030c42a6d91ba516f7b8a0b699c1f497b54958480b9a8c28503da73e808f"), looks := false }, kinds := [], alts := [], laidByText := true, laidKinds := [.listed, .data, .widerDeep], laidTests := true, laidLooks := .later }
def TextBackUptoCardSaid : Prop := Claim7.holds Tryz.pinned (.plain (OpenSpec.upto textBackSpec)) textBackUptoCard

/-- THE SECOND FORM's CARD OF 'ceilinglaw23.TextTwice'. -/
def textTwiceUptoCard : Claim7 := { stood := { row := textTwiceUptoRow, standIns := [], harness := (true, "526d030c42a6d91ba516f7b8a0b699c1f497b54958480b9a8c28503da73e808f"), looks := false }, kinds := [], alts := [], laidByText := true, laidKinds := [.listed, .data, .widerDeep], laidTests := true, laidLooks := .later }
def TextTwiceUptoCardSaid : Prop := Claim7.holds Tryz.pinned (.plain (OpenSpec.upto textTwiceSpec)) textTwiceUptoCard
end Rows
end Go.Proofs.YtejcfgjpdocaoaaGreatDoor
