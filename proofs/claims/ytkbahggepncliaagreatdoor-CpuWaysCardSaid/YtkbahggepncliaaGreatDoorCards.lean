/-
  DERIVED. GIVEN WITH THE SEED: THE CARDS: each row of YtkbahggepncliaaGreatDoorRows.lean that lists a variable, with what it lists TIED to the program's text (the seventh form; the later family's looks); each row that meets fmt, with fmt's text TOLD by the authors' own Lean function (tested against real Go, not proved from fmt's source: count such statements apart). THE CARD IS WHAT COUNTS. Prove the row's statement (the work); the ties are given (YtkbahggepncliaaGreatDoorTie.lean); close each card by the builder's one call (the guide's Derived/Test/ToyasCard.lean, 'card_holds'). Laid BY PROGRAM, IN A SANDBOX (cutbox-door.mjs). By AI agents, Wed Nov 11 2026. No macro, syntax, notation, axiom, sorry.
-/
import Derived.Test.YtkbahggepncliaaGreatDoorRows
import GoSem.ClaimSeven
namespace Go.Proofs.YtkbahggepncliaaGreatDoor
namespace Rows

/-- THE TIED CARD OF 'ceilinglaw28.CpuSums'. -/
def cpuSumsCard : Claim7 := { stood := { row := cpuSumsRow, standIns := [], harness := (true, "23d74111835e41e2a2a2670fca69a44dc62c335d2117a5dc05f6498d2428bb8b"), looks := true }, kinds := [], alts := [], laidByText := true, laidKinds := [.listed, .data, .widerDeep], laidTests := true, laidLooks := .later }
def CpuSumsCardSaid : Prop := Claim7.holds Tryz.pinned (.plain (OpenSpec.ofChange cpuSumsSpec)) cpuSumsCard

/-- THE TIED CARD OF 'ceilinglaw28.CpuPasses'. -/
def cpuPassesCard : Claim7 := { stood := { row := cpuPassesRow, standIns := [], harness := (true, "23d74111835e41e2a2a2670fca69a44dc62c335d2117a5dc05f6498d2428bb8b"), looks := true }, kinds := [], alts := [], laidByText := true, laidKinds := [.listed, .data, .widerDeep], laidTests := true, laidLooks := .later }
def CpuPassesCardSaid : Prop := Claim7.holds Tryz.pinned (.plain (OpenSpec.ofChange cpuPassesSpec)) cpuPassesCard

/-- THE TIED CARD OF 'ceilinglaw28.CpuRuns'. -/
def cpuRunsCard : Claim7 := { stood := { row := cpuRunsRow, standIns := [], harness := (true, "23d74111835e41e2a2a2670fca69a44dc62c335d2117a5dc05f6498d2428bb8b"), looks := true }, kinds := [], alts := [], laidByText := true, laidKinds := [.listed, .data, .widerDeep], laidTests := true, laidLooks := .later }
def CpuRunsCardSaid : Prop := Claim7.holds Tryz.pinned (.plain (OpenSpec.ofChange cpuRunsSpec)) cpuRunsCard

/-- THE TIED CARD OF 'ceilinglaw28.CpuPlays'. -/
def cpuPlaysCard : Claim7 := { stood := { row := cpuPlaysRow, standIns := [], harness := (true, "23d74111835e41e2a2a2670fca69a44dc62c335d2117a5dc05f6498d2428bb8b"), looks := true }, kinds := [], alts := [], laidByText := true, laidKinds := [.listed, .data, .widerDeep], laidTests := true, laidLooks := .later }
def CpuPlaysCardSaid : Prop := Claim7.holds Tryz.pinned (.plain (OpenSpec.ofChange cpuPlaysSpec)) cpuPlaysCard

/-- THE TIED CARD OF 'ceilinglaw28.CpuNone'. -/
def cpuNoneCard : Claim7 := { stood := { row := cpuNoneRow, standIns := [], harness := (true, "23d74111835e41e2a2a2670fca69a44dc62c335d2117a5dc05f6498d2428bb8b"), looks := true }, kinds := [], alts := [], laidByText := true, laidKinds := [.listed, .data, .widerDeep], laidTests := true, laidLooks := .later }
def CpuNoneCardSaid : Prop := Claim7.holds Tryz.pinned (.plain (OpenSpec.ofChange cpuNoneSpec)) cpuNoneCard

/-- THE TIED CARD OF 'ceilinglaw28.CpuWays'. -/
def cpuWaysCard : Claim7 := { stood := { row := cpuWaysRow, standIns := [], harness := (true, "23d74111835e41e2a2a2670fca69a44dc62c335d2117a5dc05f6498d2428bb8b"), looks := true }, kinds := [], alts := [], laidByText := true, laidKinds := [.listed, .data, .widerDeep], laidTests := true, laidLooks := .later }
def CpuWaysCardSaid : Prop := Claim7.holds Tryz.pinned (.plain (OpenSpec.ofChange cpuWaysSpec)) cpuWaysCard

/-- THE SECOND FORM's CARD OF 'ceilinglaw28.CpuSums'. -/
def cpuSumsUptoCard : Claim7 := { stood := { row := cpuSumsUptoRow, standIns := [], harness := (true, "23d74111835e41e2a2a2670fca69a44dc62c335d2117a5dc05f6498d2428bb8b"), looks := true }, kinds := [], alts := [], laidByText := true, laidKinds := [.listed, .data, .widerDeep], laidTests := true, laidLooks := .later }
def CpuSumsUptoCardSaid : Prop := Claim7.holds Tryz.pinned (.plain (OpenSpec.upto cpuSumsSpec)) cpuSumsUptoCard

/-- THE SECOND FORM's CARD OF 'ceilinglaw28.CpuPasses'. -/
def cpuPassesUptoCard : Claim7 := { stood := { row := cpuPassesUptoRow, standIns := [], harness := (true, "23d74111835e41e2a2a2670fca69a44dc62c335d2117a5dc05f6498d2428bb8b"), looks := true }, kinds := [], alts := [], laidByText := true, laidKinds := [.listed, .data, .widerDeep], laidTests := true, laidLooks := .later }
def CpuPassesUptoCardSaid : Prop := Claim7.holds Tryz.pinned (.plain (OpenSpec.upto cpuPassesSpec)) cpuPassesUptoCard

/-- THE SECOND FORM's CARD OF 'ceilinglaw28.CpuRuns'. -/
def cpuRunsUptoCard : Claim7 := { stood := { row := cpuRunsUptoRow, standIns := [], harness := (true, "23d74111835e41e2a2a2670fca69a44dc62c335d2117a5dc05f6498d2428bb8b"), looks := true }, kinds := [], alts := [], laidByText := true, laidKinds := [.listed, .data, .widerDeep], laidTests := true, laidLooks := .later }
def CpuRunsUptoCardSaid : Prop := Claim7.holds Tryz.pinned (.plain (OpenSpec.upto cpuRunsSpec)) cpuRunsUptoCard

/-- THE SECOND FORM's CARD OF 'ceilinglaw28.CpuPlays'. -/
def cpuPlaysUptoCard : Claim7 := { stood := { row := cpuPlaysUptoRow, standIns := [], harness := (true, "23d74111835e41e2a2a2670fca69a44dc62c335d2117a5dc05f6498d2428bb8b"), looks := true }, kinds := [], alts := [], laidByText := true, laidKinds := [.listed, .data, .widerDeep], laidTests := true, laidLooks := .later }
def CpuPlaysUptoCardSaid : Prop := Claim7.holds Tryz.pinned (.plain (OpenSpec.upto cpuPlaysSpec)) cpuPlaysUptoCard

/-- THE SECOND FORM's CARD OF 'ceilinglaw28.CpuNone'. -/
def cpuNoneUptoCard : Claim7 := { stood := { row := cpuNoneUptoRow, standIns := [], harness := (true, "23d74111835e41e2a2a2670fca69a44dc62c335d2117a5dc05f6498d2428bb8b"), looks := true }, kinds := [], alts := [], laidByText := true, laidKinds := [.listed, .data, .widerDeep], laidTests := true, laidLooks := .later }
def CpuNoneUptoCardSaid : Prop := Claim7.holds Tryz.pinned (.plain (OpenSpec.upto cpuNoneSpec)) cpuNoneUptoCard

/-- THE SECOND FORM's CARD OF 'ceilinglaw28.CpuWays'. -/
def cpuWaysUptoCard : Claim7 := { stood := { row := cpuWaysUptoRow, standIns := [], harness := (true, "23d74111835e41e2a2a2670fca69a44dc62c335d2117a5dc05f6498d2428bb8b"), looks := true }, kinds := [], alts := [], laidByText := true, laidKinds := [.listed, .data, .widerDeep], laidTests := true, laidLooks := .later }
def CpuWaysUptoCardSaid : Prop := Claim7.holds Tryz.pinned (.plain (OpenSpec.upto cpuWaysSpec)) cpuWaysUptoCard
end Rows
end Go.Proofs.YtkbahggepncliaaGreatDoor
