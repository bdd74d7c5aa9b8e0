/-
  DERIVED. GIVEN WITH THE SEED: THE CARDS: each row of YtpodhdopgcedlaaGreatDoorRows.lean that lists a variable, with what it lists TIED to the program's text (the seventh form; the later family's looks); each row that meets fmt, with fmt's text TOLD by the authors' own Lean function (tested against real Go, not proved from fmt's source: count such statements apart). THE CARD IS WHAT COUNTS. Prove the row's statement (the work); the ties are given (YtpodhdopgcedlaaGreatDoorTie.lean); close each card by the builder's one call (the guide's Derived/Test/ToyasCard.lean, 'card_holds'). Laid BY PROGRAM, IN A SANDBOX (cutbox-door.mjs). By AI agents, Wed Nov 11 2026. No macro, syntax, notation, axiom, sorry.
-/
import Derived.Test.YtpodhdopgcedlaaGreatDoorRows
import GoSem.ClaimSeven
namespace Go.Proofs.YtpodhdopgcedlaaGreatDoor
namespace Rows

/-- THE TIED CARD OF 'ceilinglaw25.FlowNext'. -/
def flowNextCard : Claim7 := { stood := { row := flowNextRow, standIns := [], harness := (true, "f4eb2596aba4ed0eb65dc1274cf0154ce7d95865d77f933a5ecb709326519b1d"), looks := false }, kinds := [], alts := [], laidByText := true, laidKinds := [.listed, .data, .widerDeep], laidTests := true, laidLooks := .later }
def FlowNextCardSaid : Prop := Claim7.holds Tryz.pinned (.plain (OpenSpec.ofChange flowNextSpec)) flowNextCard

/-- THE TIED CARD OF 'ceilinglaw25.FlowGraphs'. -/
def flowGraphsCard : Claim7 := { stood := { row := flowGraphsRow, standIns := [], harness := (true, "f4eb2596aba4ed0eb65dc1274cf0154ce7d95865d77f933a5ecb709326519b1d"), looks := false }, kinds := [], alts := [], laidByText := true, laidKinds := [.listed, .data, .widerDeep], laidTests := true, laidLooks := .later }
def FlowGraphsCardSaid : Prop := Claim7.holds Tryz.pinned (.plain (OpenSpec.ofChange flowGraphsSpec)) flowGraphsCard

/-- THE TIED CARD OF 'ceilinglaw25.FlowCovers'. -/
def flowCoversCard : Claim7 := { stood := { row := flowCoversRow, standIns := [], harness := (true, "f4eb2596aba4ed0eb65dc1274cf0154ce7d95865d77f933a5ecb709326519b1d"), looks := false }, kinds := [], alts := [], laidByText := true, laidKinds := [.listed, .data, .widerDeep], laidTests := true, laidLooks := .later }
def FlowCoversCardSaid : Prop := Claim7.holds Tryz.pinned (.plain (OpenSpec.ofChange flowCoversSpec)) flowCoversCard

/-- THE TIED CARD OF 'ceilinglaw25.FlowDoms'. -/
def flowDomsCard : Claim7 := { stood := { row := flowDomsRow, standIns := [], harness := (true, "f4eb2596aba4ed0eb65dc1274cf0154ce7d95865d77f933a5ecb709326519b1d"), looks := false }, kinds := [], alts := [], laidByText := true, laidKinds := [.listed, .data, .widerDeep], laidTests := true, laidLooks := .later }
def FlowDomsCardSaid : Prop := Claim7.holds Tryz.pinned (.plain (OpenSpec.ofChange flowDomsSpec)) flowDomsCard

/-- THE TIED CARD OF 'ceilinglaw25.FlowNested'. -/
def flowNestedCard : Claim7 := { stood := { row := flowNestedRow, standIns := [], harness := (true, "f4eb2596aba4ed0eb65dc1274cf0154ce7d95865d77f933a5ecb709326519b1d"), looks := false }, kinds := [], alts := [], laidByText := true, laidKinds := [.listed, .data, .widerDeep], laidTests := true, laidLooks := .later }
def FlowNestedCardSaid : Prop := Claim7.holds Tryz.pinned (.plain (OpenSpec.ofChange flowNestedSpec)) flowNestedCard

/-- THE SECOND FORM's CARD OF 'ceilinglaw25.FlowNext'. -/
def flowNextUptoCard : Claim7 := { stood := { row := flowNextUptoRow, standIns := [], harness := (true, "f4eb2596aba4ed0eb65dc1274cf0154ce7d95865d77f933a5ecb709326519b1d"), looks := false }, kinds := [], alts := [], laidByText := true, laidKinds := [.listed, .data, .widerDeep], laidTests := true, laidLooks := .later }
def FlowNextUptoCardSaid : Prop := Claim7.holds Tryz.pinned (.plain (OpenSpec.upto flowNextSpec)) flowNextUptoCard

/-- THE SECOND FORM's CARD OF 'ceilinglaw25.FlowGraphs'. -/
def flowGraphsUptoCard : Claim7 := { stood := { row := flowGraphsUptoRow, standIns := [], harness := (true, "f4eb2596aba4ed0eb65dc1274cf0154ce7d95865d77f933a5ecb709326519b1d"), looks := false }, kinds := [], alts := [], laidByText := true, laidKinds := [.listed, .data, .widerDeep], laidTests := true, laidLooks := .later }
def FlowGraphsUptoCardSaid : Prop := Claim7.holds Tryz.pinned (.plain (OpenSpec.upto flowGraphsSpec)) flowGraphsUptoCard

/-- THE SECOND FORM's CARD OF 'ceilinglaw25.FlowCovers'. -/
def flowCoversUptoCard : Claim7 := { stood := { row := flowCoversUptoRow, standIns := [], harness := (true, "f4eb2596aba4ed0eb65dc1274cf0154ce7d95865d77f933a5ecb709326519b1d"), looks := false }, kinds := [], alts := [], laidByText := true, laidKinds := [.listed, .data, .widerDeep], laidTests := true, laidLooks := .later }
def FlowCoversUptoCardSaid : Prop := Claim7.holds Tryz.pinned (.plain (OpenSpec.upto flowCoversSpec)) flowCoversUptoCard

/-- THE SECOND FORM's CARD OF 'ceilinglaw25.FlowDoms'. -/
def flowDomsUptoCard : Claim7 := { stood := { row := flowDomsUptoRow, standIns := [], harness := (true, "f4eb2596aba4ed0eb65dc1274cf0154ce7d95865d77f933a5ecb709326519b1d"), looks := false }, kinds := [], alts := [], laidByText := true, laidKinds := [.listed, .data, .widerDeep], laidTests := true, laidLooks := .later }
def FlowDomsUptoCardSaid : Prop := Claim7.holds Tryz.pinned (.plain (OpenSpec.upto flowDomsSpec)) flowDomsUptoCard

/-- THE SECOND FORM's CARD OF 'ceilinglaw25.FlowNested'. -/
def flowNestedUptoCard : Claim7 := { stood := { row := flowNestedUptoRow, standIns := [], harness := (true, "f4eb2596aba4ed0eb65dc1274cf0154ce7d95865d77f933a5ecb709326519b1d"), looks := false }, kinds := [], alts := [], laidByText := true, laidKinds := [.listed, .data, .widerDeep], laidTests := true, laidLooks := .later }
def FlowNestedUptoCardSaid : Prop := Claim7.holds Tryz.pinned (.plain (OpenSpec.upto flowNestedSpec)) flowNestedUptoCard
end Rows
end Go.Proofs.YtpodhdopgcedlaaGreatDoor
