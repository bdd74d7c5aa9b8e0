/-
  DERIVED. GIVEN WITH THE SEED: THE CARDS: each row of YteafckpdbmncfaaDoorRows.lean that lists a variable, with what it lists TIED to the program's text (the seventh form; the later family's looks); each row that meets fmt, with fmt's text TOLD by the authors' own Lean function (tested against real Go, not proved from fmt's source: count such statements apart). THE CARD IS WHAT COUNTS. Prove the row's statement (the work); the ties are given (YteafckpdbmncfaaDoorTie.lean); close each card by the builder's one call (the guide's Derived/Test/ToyasCard.lean, 'card_holds'). Laid BY PROGRAM, IN A SANDBOX (cutbox-door.mjs). By AI agents, Wed Nov 11 2026. No macro, syntax, notation, axiom, sorry.
-/
import Derived.Test.YteafckpdbmncfaaDoorRows
import GoSem.ClaimSeven
namespace Go.Proofs.YteafckpdbmncfaaDoor
namespace Rows

/-- THE TIED CARD OF 'ceilinglaw06.TableNames'. -/
def tableNamesCard : Claim7 := { stood := { row := tableNamesRow, standIns := [], harness := (true, "16370aa47215bb2edf338bc15c1aed2fa528c38d83e6bdd509f60c110936e8e8"), looks := false }, kinds := [], alts := [], laidByText := true, laidKinds := [.listed, .data], laidTests := true, laidLooks := .later }
def TableNamesCardSaid : Prop := Claim7.holds Tryd.pinned (.plain (OpenSpec.ofChange tableNamesSpec)) tableNamesCard

/-- THE TIED CARD OF 'ceilinglaw06.TableConverts'. -/
def tableConvertsCard : Claim7 := { stood := { row := tableConvertsRow, standIns := [], harness := (true, "16370aa47215bb2edf338bc15c1aed2fa528c38d83e6bdd509f60c110936e8e8"), looks := false }, kinds := [], alts := [], laidByText := true, laidKinds := [.listed, .data], laidTests := true, laidLooks := .later }
def TableConvertsCardSaid : Prop := Claim7.holds Tryd.pinned (.plain (OpenSpec.ofChange tableConvertsSpec)) tableConvertsCard

/-- THE TIED CARD OF 'ceilinglaw06.TableKinship'. -/
def tableKinshipCard : Claim7 := { stood := { row := tableKinshipRow, standIns := [], harness := (true, "16370aa47215bb2edf338bc15c1aed2fa528c38d83e6bdd509f60c110936e8e8"), looks := false }, kinds := [], alts := [], laidByText := true, laidKinds := [.listed, .data], laidTests := true, laidLooks := .later }
def TableKinshipCardSaid : Prop := Claim7.holds Tryd.pinned (.plain (OpenSpec.ofChange tableKinshipSpec)) tableKinshipCard

/-- THE TIED CARD OF 'ceilinglaw06.TableValues'. -/
def tableValuesCard : Claim7 := { stood := { row := tableValuesRow, standIns := [], harness := (true, "16370aa47215bb2edf338bc15c1aed2fa528c38d83e6bdd509f60c110936e8e8"), looks := false }, kinds := [], alts := [], laidByText := true, laidKinds := [.listed, .data], laidTests := true, laidLooks := .later }
def TableValuesCardSaid : Prop := Claim7.holds Tryd.pinned (.plain (OpenSpec.ofChange tableValuesSpec)) tableValuesCard

/-- THE TIED CARD OF 'ceilinglaw06.TableDefault'. -/
def tableDefaultCard : Claim7 := { stood := { row := tableDefaultRow, standIns := [], harness := (true, "16370aa47215bb2edf338bc15c1aed2fa528c38d83e6bdd509f60c110936e8e8"), looks := false }, kinds := [], alts := [], laidByText := true, laidKinds := [.listed, .data], laidTests := true, laidLooks := .later }
def TableDefaultCardSaid : Prop := Claim7.holds Tryd.pinned (.plain (OpenSpec.ofChange tableDefaultSpec)) tableDefaultCard

/-- THE TIED CARD OF 'ceilinglaw06.TableSlots'. -/
def tableSlotsCard : Claim7 := { stood := { row := tableSlotsRow, standIns := [], harness := (true, "16370aa47215bb2edf338bc15c1aed2fa528c38d83e6bdd509f60c110936e8e8"), looks := false }, kinds := [], alts := [], laidByText := true, laidKinds := [.listed, .data], laidTests := true, laidLooks := .later }
def TableSlotsCardSaid : Prop := Claim7.holds Tryd.pinned (.plain (OpenSpec.ofChange tableSlotsSpec)) tableSlotsCard

/-- THE TIED CARD OF 'ceilinglaw06.TableKnown'. -/
def tableKnownCard : Claim7 := { stood := { row := tableKnownRow, standIns := [], harness := (true, "16370aa47215bb2edf338bc15c1aed2fa528c38d83e6bdd509f60c110936e8e8"), looks := false }, kinds := [], alts := [], laidByText := true, laidKinds := [.listed, .data], laidTests := true, laidLooks := .later }
def TableKnownCardSaid : Prop := Claim7.holds Tryd.pinned (.plain (OpenSpec.ofChange tableKnownSpec)) tableKnownCard

/-- THE SECOND FORM's CARD OF 'ceilinglaw06.TableNames'. -/
def tableNamesUptoCard : Claim7 := { stood := { row := tableNamesUptoRow, standIns := [], harness := (true, "16370aa47215bb2edf338bc15c1aed2fa528c38d83e6bdd509f60c110936e8e8"), looks := false }, kinds := [], alts := [], laidByText := true, laidKinds := [.listed, .data], laidTests := true, laidLooks := .later }
def TableNamesUptoCardSaid : Prop := Claim7.holds Tryd.pinned (.plain (OpenSpec.upto tableNamesSpec)) tableNamesUptoCard

/-- THE SECOND FORM's CARD OF 'ceilinglaw06.TableConverts'. -/
def tableConvertsUptoCard : Claim7 := { stood := { row := tableConvertsUptoRow, standIns := [], harness := (true, "16370aa47215bb2edf338bc15c1aed2fa528c38d83e6bdd509f60c110936e8e8"), looks := false }, kinds := [], alts := [], laidByText := true, laidKinds := [.listed, .data], laidTests := true, laidLooks := .later }
def TableConvertsUptoCardSaid : Prop := Claim7.holds Tryd.pinned (.plain (OpenSpec.upto tableConvertsSpec)) tableConvertsUptoCard

/-- THE SECOND FORM's CARD OF 'ceilinglaw06.TableKinship'. -/
def tableKinshipUptoCard : Claim7 := { stood := { row := tableKinshipUptoRow, standIns := [], harness := (true, "16370aa47215bb2edf338bc15c1aed2fa528c38d83e6bdd509f60c110936e8e8"), looks := false }, kinds := [], alts := [], laidByText := true, laidKinds := [.listed, .data], laidTests := true, laidLooks := .later }
def TableKinshipUptoCardSaid : Prop := Claim7.holds Tryd.pinned (.plain (OpenSpec.upto tableKinshipSpec)) tableKinshipUptoCard

/-- THE SECOND FORM's CARD OF 'ceilinglaw06.TableValues'. -/
def tableValuesUptoCard : Claim7 := { stood := { row := tableValuesUptoRow, standIns := [], harness := (true, "16370aa47215bb2edf338bc15c1aed2fa528c38d83e6bdd509f60c110936e8e8"), looks := false }, kinds := [], alts := [], laidByText := true, laidKinds := [.listed, .data], laidTests := true, laidLooks := .later }
def TableValuesUptoCardSaid : Prop := Claim7.holds Tryd.pinned (.plain (OpenSpec.upto tableValuesSpec)) tableValuesUptoCard

/-- THE SECOND FORM's CARD OF 'ceilinglaw06.TableDefault'. -/
def tableDefaultUptoCard : Claim7 := { stood := { row := tableDefaultUptoRow, standIns := [], harness := (true, "16370aa47215bb2edf338bc15c1aed2fa528c38d83e6bdd509f60c110936e8e8"), looks := false }, kinds := [], alts := [], laidByText := true, laidKinds := [.listed, .data], laidTests := true, laidLooks := .later }
def TableDefaultUptoCardSaid : Prop := Claim7.holds Tryd.pinned (.plain (OpenSpec.upto tableDefaultSpec)) tableDefaultUptoCard

/-- THE SECOND FORM's CARD OF 'ceilinglaw06.TableSlots'. -/
def tableSlotsUptoCard : Claim7 := { stood := { row := tableSlotsUptoRow, standIns := [], harness := (true, "16370aa47215bb2edf338bc15c1aed2fa528c38d83e6bdd509f60c110936e8e8"), looks := false }, kinds := [], alts := [], laidByText := true, laidKinds := [.listed, .data], laidTests := true, laidLooks := .later }
def TableSlotsUptoCardSaid : Prop := Claim7.holds Tryd.pinned (.plain (OpenSpec.upto tableSlotsSpec)) tableSlotsUptoCard

/-- THE SECOND FORM's CARD OF 'ceilinglaw06.TableKnown'. -/
def tableKnownUptoCard : Claim7 := { stood := { row := tableKnownUptoRow, standIns := [], harness := (true, "16370aa47215bb2edf338bc15c1aed2fa528c38d83e6bdd509f60c110936e8e8"), looks := false }, kinds := [], alts := [], laidByText := true, laidKinds := [.listed, .data], laidTests := true, laidLooks := .later }
def TableKnownUptoCardSaid : Prop := Claim7.holds Tryd.pinned (.plain (OpenSpec.upto tableKnownSpec)) tableKnownUptoCard
end Rows
end Go.Proofs.YteafckpdbmncfaaDoor
