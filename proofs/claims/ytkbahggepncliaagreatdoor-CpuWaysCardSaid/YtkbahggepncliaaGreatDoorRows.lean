/-
  NARROWER THAN 'FOR EVERY INPUT', by the rows' own cells (each row's printed sentence says how): CpuSums: laid · CpuPasses: loops, laid · CpuRuns: loops, laid · CpuPlays: loops, laid · CpuNone: laid · CpuWays: loops, laid.
  DERIVED. THE GIVEN ROWS OF THIS SEAT. 6 by the template 'for every input the law returns true; each argument reads behind the call as it read before'; 0 by the template 'total and deterministic' (their statements: YtkbahggepncliaaGreatDoorTotals.lean).
  GIVEN WITH THE SEED: the statements are not yours to turn. If you find one false, say at which input.
  Laid BY PROGRAM, IN A SANDBOX (cutbox-rows.mjs): the forced cells as the released guide's own fill.sh prints them over the translation 353d42b0364c43f9… (all of the seat's roots in one cut). By AI agents, Wed Nov 11 2026. No macro, syntax, notation, axiom, sorry.
-/
import Derived.Test.YtkbahggepncliaaGreatDoorChecked
import GoSem.Claim
import GoSem.ClaimJoined
import GoSem.ClaimMapViews
import Derived.JoinedTies
import Derived.KernelRfl
namespace Go.Proofs.YtkbahggepncliaaGreatDoor
/- THE CELL 'sum', in the pinned program and in every row, IS THE sha256 OF THE DUMP (.gsa) THAT YtkbahggepncliaaGreatDoorProg.lean LOADS. Nothing in Lean hashes anything: it is a label: what it is worth is what the hold of that sum in a sandbox is worth. -/
noncomputable def Tryz.pinned : Pinned := { name := "ytkbahggepncliaagreatdoor", sum := "353d42b0364c43f95af5da1ebb1ae8209a1e7795cc5b24b2c9e8e496b190ea70", checked := Tryz.checked }
namespace Rows
def none {H : Type} : Left H := { results := [], args := [] }

/- WHAT THE LISTED PACKAGE-LEVEL VARIABLES READ AS WHEN THE CALL BEGINS. Each datum BY PROGRAM (the guide's laid-datum.mjs) off the statement by which the dump's own 'gosem.cut.vars' lays the variable. In a bare row this is a premise. The card (YtkbahggepncliaaGreatDoorCards.lean) ties it to the program's text. -/
def laid_unicode_White_Space {H : Type} : DataW H := .ptr (.agg [.slice [.agg [.lit (.int .u16 9), .lit (.int .u16 13), .lit (.int .u16 1)], .agg [.lit (.int .u16 32), .lit (.int .u16 133), .lit (.int .u16 101)], .agg [.lit (.int .u16 160), .lit (.int .u16 5760), .lit (.int .u16 5600)], .agg [.lit (.int .u16 8192), .lit (.int .u16 8202), .lit (.int .u16 1)], .agg [.lit (.int .u16 8232), .lit (.int .u16 8233), .lit (.int .u16 1)], .agg [.lit (.int .u16 8239), .lit (.int .u16 8287), .lit (.int .u16 48)], .agg [.lit (.int .u16 12288), .lit (.int .u16 12288), .lit (.int .u16 1)]] [], .nil, .lit (.int .i64 2)])
def laid_strings_asciiSpace {H : Type} : DataW H := .agg [.lit (.int .u8 0), .lit (.int .u8 0), .lit (.int .u8 0), .lit (.int .u8 0), .lit (.int .u8 0), .lit (.int .u8 0), .lit (.int .u8 0), .lit (.int .u8 0), .lit (.int .u8 0), .lit (.int .u8 1), .lit (.int .u8 1), .lit (.int .u8 1), .lit (.int .u8 1), .lit (.int .u8 1), .lit (.int .u8 0), .lit (.int .u8 0), .lit (.int .u8 0), .lit (.int .u8 0), .lit (.int .u8 0), .lit (.int .u8 0), .lit (.int .u8 0), .lit (.int .u8 0), .lit (.int .u8 0), .lit (.int .u8 0), .lit (.int .u8 0), .lit (.int .u8 0), .lit (.int .u8 0), .lit (.int .u8 0), .lit (.int .u8 0), .lit (.int .u8 0), .lit (.int .u8 0), .lit (.int .u8 0), .lit (.int .u8 1), .lit (.int .u8 0), .lit (.int .u8 0), .lit (.int .u8 0), .lit (.int .u8 0), .lit (.int .u8 0), .lit (.int .u8 0), .lit (.int .u8 0), .lit (.int .u8 0), .lit (.int .u8 0), .lit (.int .u8 0), .lit (.int .u8 0), .lit (.int .u8 0), .lit (.int .u8 0), .lit (.int .u8 0), .lit (.int .u8 0), .lit (.int .u8 0), .lit (.int .u8 0), .lit (.int .u8 0), .lit (.int .u8 0), .lit (.int .u8 0), .lit (.int .u8 0), .lit (.int .u8 0), .lit (.int .u8 0), .lit (.int .u8 0), .lit (.int .u8 0), .lit (.int .u8 0), .lit (.int .u8 0), .lit (.int .u8 0), .lit (.int .u8 0), .lit (.int .u8 0), .lit (.int .u8 0), .lit (.int .u8 0), .lit (.int .u8 0), .lit (.int .u8 0), .lit (.int .u8 0), .lit (.int .u8 0), .lit (.int .u8 0), .lit (.int .u8 0), .lit (.int .u8 0), .lit (.int .u8 0), .lit (.int .u8 0), .lit (.int .u8 0), .lit (.int .u8 0), .lit (.int .u8 0), .lit (.int .u8 0), .lit (.int .u8 0), .lit (.int .u8 0), .lit (.int .u8 0), .lit (.int .u8 0), .lit (.int .u8 0), .lit (.int .u8 0), .lit (.int .u8 0), .lit (.int .u8 0), .lit (.int .u8 0), .lit (.int .u8 0), .lit (.int .u8 0), .lit (.int .u8 0), .lit (.int .u8 0), .lit (.int .u8 0), .lit (.int .u8 0), .lit (.int .u8 0), .lit (.int .u8 0), .lit (.int .u8 0), .lit (.int .u8 0), .lit (.int .u8 0), .lit (.int .u8 0), .lit (.int .u8 0), .lit (.int .u8 0), .lit (.int .u8 0), .lit (.int .u8 0), .lit (.int .u8 0), .lit (.int .u8 0), .lit (.int .u8 0), .lit (.int .u8 0), .lit (.int .u8 0), .lit (.int .u8 0), .lit (.int .u8 0), .lit (.int .u8 0), .lit (.int .u8 0), .lit (.int .u8 0), .lit (.int .u8 0), .lit (.int .u8 0), .lit (.int .u8 0), .lit (.int .u8 0), .lit (.int .u8 0), .lit (.int .u8 0), .lit (.int .u8 0), .lit (.int .u8 0), .lit (.int .u8 0), .lit (.int .u8 0), .lit (.int .u8 0), .lit (.int .u8 0), .lit (.int .u8 0), .lit (.int .u8 0), .lit (.int .u8 0), .lit (.int .u8 0), .lit (.int .u8 0), .lit (.int .u8 0), .lit (.int .u8 0), .lit (.int .u8 0), .lit (.int .u8 0), .lit (.int .u8 0), .lit (.int .u8 0), .lit (.int .u8 0), .lit (.int .u8 0), .lit (.int .u8 0), .lit (.int .u8 0), .lit (.int .u8 0), .lit (.int .u8 0), .lit (.int .u8 0), .lit (.int .u8 0), .lit (.int .u8 0), .lit (.int .u8 0), .lit (.int .u8 0), .lit (.int .u8 0), .lit (.int .u8 0), .lit (.int .u8 0), .lit (.int .u8 0), .lit (.int .u8 0), .lit (.int .u8 0), .lit (.int .u8 0), .lit (.int .u8 0), .lit (.int .u8 0), .lit (.int .u8 0), .lit (.int .u8 0), .lit (.int .u8 0), .lit (.int .u8 0), .lit (.int .u8 0), .lit (.int .u8 0), .lit (.int .u8 0), .lit (.int .u8 0), .lit (.int .u8 0), .lit (.int .u8 0), .lit (.int .u8 0), .lit (.int .u8 0), .lit (.int .u8 0), .lit (.int .u8 0), .lit (.int .u8 0), .lit (.int .u8 0), .lit (.int .u8 0), .lit (.int .u8 0), .lit (.int .u8 0), .lit (.int .u8 0), .lit (.int .u8 0), .lit (.int .u8 0), .lit (.int .u8 0), .lit (.int .u8 0), .lit (.int .u8 0), .lit (.int .u8 0), .lit (.int .u8 0), .lit (.int .u8 0), .lit (.int .u8 0), .lit (.int .u8 0), .lit (.int .u8 0), .lit (.int .u8 0), .lit (.int .u8 0), .lit (.int .u8 0), .lit (.int .u8 0), .lit (.int .u8 0), .lit (.int .u8 0), .lit (.int .u8 0), .lit (.int .u8 0), .lit (.int .u8 0), .lit (.int .u8 0), .lit (.int .u8 0), .lit (.int .u8 0), .lit (.int .u8 0), .lit (.int .u8 0), .lit (.int .u8 0), .lit (.int .u8 0), .lit (.int .u8 0), .lit (.int .u8 0), .lit (.int .u8 0), .lit (.int .u8 0), .lit (.int .u8 0), .lit (.int .u8 0), .lit (.int .u8 0), .lit (.int .u8 0), .lit (.int .u8 0), .lit (.int .u8 0), .lit (.int .u8 0), .lit (.int .u8 0), .lit (.int .u8 0), .lit (.int .u8 0), .lit (.int .u8 0), .lit (.int .u8 0), .lit (.int .u8 0), .lit (.int .u8 0), .lit (.int .u8 0), .lit (.int .u8 0), .lit (.int .u8 0), .lit (.int .u8 0), .lit (.int .u8 0), .lit (.int .u8 0), .lit (.int .u8 0), .lit (.int .u8 0), .lit (.int .u8 0), .lit (.int .u8 0), .lit (.int .u8 0), .lit (.int .u8 0), .lit (.int .u8 0), .lit (.int .u8 0), .lit (.int .u8 0), .lit (.int .u8 0), .lit (.int .u8 0), .lit (.int .u8 0), .lit (.int .u8 0), .lit (.int .u8 0), .lit (.int .u8 0), .lit (.int .u8 0), .lit (.int .u8 0), .lit (.int .u8 0), .lit (.int .u8 0), .lit (.int .u8 0), .lit (.int .u8 0), .lit (.int .u8 0), .lit (.int .u8 0), .lit (.int .u8 0), .lit (.int .u8 0), .lit (.int .u8 0), .lit (.int .u8 0), .lit (.int .u8 0), .lit (.int .u8 0)]
def laid_ceiling_insn_rows {H : Type} : DataW H := .agg [.agg [.lit (.string [108, 105]), .lit (.string [68, 114, 32, 78, 118])], .agg [.lit (.string [109, 118]), .lit (.string [68, 114, 32, 65, 114])], .agg [.lit (.string [108, 100]), .lit (.string [68, 114, 32, 78, 111, 32, 77, 115])], .agg [.lit (.string [115, 116]), .lit (.string [65, 114, 32, 78, 111, 32, 77, 115])], .agg [.lit (.string [108, 100, 120]), .lit (.string [68, 114, 32, 65, 114, 32, 66, 108, 32, 78, 111, 32, 77, 115])], .agg [.lit (.string [115, 116, 120]), .lit (.string [68, 114, 32, 65, 114, 32, 66, 108, 32, 78, 111, 32, 77, 115])], .agg [.lit (.string [108, 100, 97]), .lit (.string [68, 114, 32, 65, 114])], .agg [.lit (.string [115, 116, 97]), .lit (.string [68, 114, 32, 65, 114])], .agg [.lit (.string [97, 100, 100]), .lit (.string [68, 114, 32, 65, 114, 32, 66, 114])], .agg [.lit (.string [115, 117, 98]), .lit (.string [68, 114, 32, 65, 114, 32, 66, 114])], .agg [.lit (.string [109, 117, 108]), .lit (.string [68, 114, 32, 65, 114, 32, 66, 114])], .agg [.lit (.string [100, 105, 118]), .lit (.string [68, 114, 32, 65, 114, 32, 66, 114])], .agg [.lit (.string [114, 101, 109]), .lit (.string [68, 114, 32, 65, 114, 32, 66, 114])], .agg [.lit (.string [109, 111, 100]), .lit (.string [68, 114, 32, 65, 114, 32, 66, 114])], .agg [.lit (.string [101, 113]), .lit (.string [68, 114, 32, 65, 114, 32, 66, 114])], .agg [.lit (.string [110, 101]), .lit (.string [68, 114, 32, 65, 114, 32, 66, 114])], .agg [.lit (.string [108, 116]), .lit (.string [68, 114, 32, 65, 114, 32, 66, 114])], .agg [.lit (.string [108, 101]), .lit (.string [68, 114, 32, 65, 114, 32, 66, 114])], .agg [.lit (.string [103, 116]), .lit (.string [68, 114, 32, 65, 114, 32, 66, 114])], .agg [.lit (.string [103, 101]), .lit (.string [68, 114, 32, 65, 114, 32, 66, 114])], .agg [.lit (.string [97, 110, 100]), .lit (.string [68, 114, 32, 65, 114, 32, 66, 114])], .agg [.lit (.string [111, 114]), .lit (.string [68, 114, 32, 65, 114, 32, 66, 114])], .agg [.lit (.string [120, 111, 114]), .lit (.string [68, 114, 32, 65, 114, 32, 66, 114])], .agg [.lit (.string [110, 101, 103]), .lit (.string [68, 114, 32, 65, 114])], .agg [.lit (.string [97, 98, 115]), .lit (.string [68, 114, 32, 65, 114])], .agg [.lit (.string [110, 111, 116]), .lit (.string [68, 114, 32, 65, 114])], .agg [.lit (.string [99, 104, 107]), .lit (.string [65, 114, 32, 78, 118, 32, 77, 118])], .agg [.lit (.string [99, 104, 107, 122]), .lit (.string [65, 114])], .agg [.lit (.string [106, 109, 112]), .lit (.string [84, 115])], .agg [.lit (.string [106, 122]), .lit (.string [65, 114, 32, 84, 115])], .agg [.lit (.string [106, 110, 122]), .lit (.string [65, 114, 32, 84, 115])], .agg [.lit (.string [106, 116]), .lit (.string [65, 114, 32, 78, 118, 32, 77, 108, 32, 84, 115])], .agg [.lit (.string [114, 97, 105, 115, 101]), .lit (.string [78, 120])], .agg [.lit (.string [114, 97, 105, 115, 101, 114]), .lit (.string [65, 114])], .agg [.lit (.string [99, 111, 110, 116]), .lit (.string [65, 114])], .agg [.lit (.string [101, 120, 99]), .lit (.string [68, 114])], .agg [.lit (.string [109, 97, 114, 107]), .lit (.string [78, 107, 32, 77, 115])], .agg [.lit (.string [103, 101, 116]), .lit (.string [68, 114])], .agg [.lit (.string [112, 117, 116]), .lit (.string [65, 114])], .agg [.lit (.string [100, 101, 102, 101, 114]), .lit (.string [])], .agg [.lit (.string [97, 108, 108, 111, 119]), .lit (.string [])], .agg [.lit (.string [99, 108, 111, 99, 107]), .lit (.string [68, 114])], .agg [.lit (.string [99, 111, 117, 110, 116]), .lit (.string [68, 114, 32, 78, 101, 32, 77, 113])], .agg [.lit (.string [115, 116, 97, 114, 116]), .lit (.string [78, 115])], .agg [.lit (.string [110, 101, 118, 101, 114]), .lit (.string [78, 115])], .agg [.lit (.string [97, 119, 97, 105, 116]), .lit (.string [65, 114, 32, 78, 115])], .agg [.lit (.string [100, 101, 108, 97, 121]), .lit (.string [65, 114])], .agg [.lit (.string [117, 110, 116, 105, 108]), .lit (.string [65, 114])], .agg [.lit (.string [99, 97, 108, 108]), .lit (.string [68, 114, 32, 65, 112, 32, 66, 101, 32, 78, 111, 32, 77, 109])], .agg [.lit (.string [115, 101, 108]), .lit (.string [78, 106])], .agg [.lit (.string [100, 111, 110, 101]), .lit (.string [78, 98])], .agg [.lit (.string [114, 101, 113]), .lit (.string [65, 112, 32, 66, 101, 32, 78, 98, 32, 84, 115])], .agg [.lit (.string [108, 111, 99, 107]), .lit (.string [78, 112])], .agg [.lit (.string [112, 101, 110, 116]), .lit (.string [68, 114, 32, 65, 114, 32, 66, 109, 32, 78, 112, 32, 77, 101])], .agg [.lit (.string [117, 110, 108, 111, 99, 107]), .lit (.string [78, 112])], .agg [.lit (.string [97, 98, 111, 114, 116]), .lit (.string [78, 115])], .agg [.lit (.string [101, 110, 100]), .lit (.string [])]]

/-- 'ceilinglaw28.CpuSums': WHATEVER THE INPUT: true; the input reads as it did. -/
def cpuSumsSpec : ChangeSpec := { name := "cpuSums", fn := fun _ => fun
  | [d1, d2] => { results := [.lit (.bool true)], args := [d1, d2] }
  | _ => none }
def cpuSumsRow : OpenClaim := { program := "ytkbahggepncliaagreatdoor", sum := "353d42b0364c43f95af5da1ebb1ae8209a1e7795cc5b24b2c9e8e496b190ea70", func := "ceiling/ceilinglaw28.CpuSums", spec := "cpuSums", unfollowed := true, recurses := true, named := ["ceiling/insn.rows", "strings.asciiSpace", "unicode.White_Space"], plainKeys := false, apart := false, laid := [("unicode.White_Space", laid_unicode_White_Space), ("strings.asciiSpace", laid_strings_asciiSpace), ("ceiling/insn.rows", laid_ceiling_insn_rows)] }
def CpuSumsSaid : Prop := cpuSumsRow.holds Tryz.pinned (OpenSpec.ofChange cpuSumsSpec)

/-- ITS FALSE NEIGHBOUR: 'it returns false'. Refute it at one input. -/
def cpuSumsWrong : ChangeSpec := { name := "cpuSums", fn := fun _ => fun
  | [d1, d2] => { results := [.lit (.bool false)], args := [d1, d2] }
  | _ => none }
def CpuSumsWrongFalsely : Prop := cpuSumsRow.holds Tryz.pinned (OpenSpec.ofChange cpuSumsWrong)

/-- 'ceilinglaw28.CpuPasses': WHATEVER THE INPUT: true; the input reads as it did. -/
def cpuPassesSpec : ChangeSpec := { name := "cpuPasses", fn := fun _ => fun
  | [d1, d2, d3, d4] => { results := [.lit (.bool true)], args := [d1, d2, d3, d4] }
  | _ => none }
def cpuPassesRow : OpenClaim := { program := "ytkbahggepncliaagreatdoor", sum := "353d42b0364c43f95af5da1ebb1ae8209a1e7795cc5b24b2c9e8e496b190ea70", func := "ceiling/ceilinglaw28.CpuPasses", spec := "cpuPasses", unfollowed := true, recurses := true, named := ["ceiling/insn.rows", "strings.asciiSpace", "unicode.White_Space"], loops := true, plainKeys := false, apart := false, laid := [("unicode.White_Space", laid_unicode_White_Space), ("strings.asciiSpace", laid_strings_asciiSpace), ("ceiling/insn.rows", laid_ceiling_insn_rows)] }
def CpuPassesSaid : Prop := cpuPassesRow.holds Tryz.pinned (OpenSpec.ofChange cpuPassesSpec)

/-- ITS FALSE NEIGHBOUR: 'it returns false'. Refute it at one input. -/
def cpuPassesWrong : ChangeSpec := { name := "cpuPasses", fn := fun _ => fun
  | [d1, d2, d3, d4] => { results := [.lit (.bool false)], args := [d1, d2, d3, d4] }
  | _ => none }
def CpuPassesWrongFalsely : Prop := cpuPassesRow.holds Tryz.pinned (OpenSpec.ofChange cpuPassesWrong)

/-- 'ceilinglaw28.CpuRuns': WHATEVER THE INPUT: true; the input reads as it did. -/
def cpuRunsSpec : ChangeSpec := { name := "cpuRuns", fn := fun _ => fun
  | [d1, d2, d3, d4] => { results := [.lit (.bool true)], args := [d1, d2, d3, d4] }
  | _ => none }
def cpuRunsRow : OpenClaim := { program := "ytkbahggepncliaagreatdoor", sum := "353d42b0364c43f95af5da1ebb1ae8209a1e7795cc5b24b2c9e8e496b190ea70", func := "ceiling/ceilinglaw28.CpuRuns", spec := "cpuRuns", unfollowed := true, recurses := true, named := ["ceiling/insn.rows", "strings.asciiSpace", "unicode.White_Space"], loops := true, plainKeys := false, apart := false, laid := [("unicode.White_Space", laid_unicode_White_Space), ("strings.asciiSpace", laid_strings_asciiSpace), ("ceiling/insn.rows", laid_ceiling_insn_rows)] }
def CpuRunsSaid : Prop := cpuRunsRow.holds Tryz.pinned (OpenSpec.ofChange cpuRunsSpec)

/-- ITS FALSE NEIGHBOUR: 'it returns false'. Refute it at one input. -/
def cpuRunsWrong : ChangeSpec := { name := "cpuRuns", fn := fun _ => fun
  | [d1, d2, d3, d4] => { results := [.lit (.bool false)], args := [d1, d2, d3, d4] }
  | _ => none }
def CpuRunsWrongFalsely : Prop := cpuRunsRow.holds Tryz.pinned (OpenSpec.ofChange cpuRunsWrong)

/-- 'ceilinglaw28.CpuPlays': WHATEVER THE INPUT: true; the input reads as it did. -/
def cpuPlaysSpec : ChangeSpec := { name := "cpuPlays", fn := fun _ => fun
  | [d1, d2, d3] => { results := [.lit (.bool true)], args := [d1, d2, d3] }
  | _ => none }
def cpuPlaysRow : OpenClaim := { program := "ytkbahggepncliaagreatdoor", sum := "353d42b0364c43f95af5da1ebb1ae8209a1e7795cc5b24b2c9e8e496b190ea70", func := "ceiling/ceilinglaw28.CpuPlays", spec := "cpuPlays", unfollowed := true, recurses := true, named := ["ceiling/insn.rows", "strings.asciiSpace", "unicode.White_Space"], loops := true, plainKeys := false, apart := false, laid := [("unicode.White_Space", laid_unicode_White_Space), ("strings.asciiSpace", laid_strings_asciiSpace), ("ceiling/insn.rows", laid_ceiling_insn_rows)] }
def CpuPlaysSaid : Prop := cpuPlaysRow.holds Tryz.pinned (OpenSpec.ofChange cpuPlaysSpec)

/-- ITS FALSE NEIGHBOUR: 'it returns false'. Refute it at one input. -/
def cpuPlaysWrong : ChangeSpec := { name := "cpuPlays", fn := fun _ => fun
  | [d1, d2, d3] => { results := [.lit (.bool false)], args := [d1, d2, d3] }
  | _ => none }
def CpuPlaysWrongFalsely : Prop := cpuPlaysRow.holds Tryz.pinned (OpenSpec.ofChange cpuPlaysWrong)

/-- 'ceilinglaw28.CpuNone': WHATEVER THE INPUT: true; the input reads as it did. -/
def cpuNoneSpec : ChangeSpec := { name := "cpuNone", fn := fun _ => fun
  | [d1, d2, d3, d4] => { results := [.lit (.bool true)], args := [d1, d2, d3, d4] }
  | _ => none }
def cpuNoneRow : OpenClaim := { program := "ytkbahggepncliaagreatdoor", sum := "353d42b0364c43f95af5da1ebb1ae8209a1e7795cc5b24b2c9e8e496b190ea70", func := "ceiling/ceilinglaw28.CpuNone", spec := "cpuNone", unfollowed := true, recurses := true, named := ["ceiling/insn.rows", "strings.asciiSpace", "unicode.White_Space"], plainKeys := false, apart := false, laid := [("unicode.White_Space", laid_unicode_White_Space), ("strings.asciiSpace", laid_strings_asciiSpace), ("ceiling/insn.rows", laid_ceiling_insn_rows)] }
def CpuNoneSaid : Prop := cpuNoneRow.holds Tryz.pinned (OpenSpec.ofChange cpuNoneSpec)

/-- ITS FALSE NEIGHBOUR: 'it returns false'. Refute it at one input. -/
def cpuNoneWrong : ChangeSpec := { name := "cpuNone", fn := fun _ => fun
  | [d1, d2, d3, d4] => { results := [.lit (.bool false)], args := [d1, d2, d3, d4] }
  | _ => none }
def CpuNoneWrongFalsely : Prop := cpuNoneRow.holds Tryz.pinned (OpenSpec.ofChange cpuNoneWrong)

/-- 'ceilinglaw28.CpuWays': WHATEVER THE INPUT: true; the input reads as it did. -/
def cpuWaysSpec : ChangeSpec := { name := "cpuWays", fn := fun _ => fun
  | [d1, d2, d3, d4] => { results := [.lit (.bool true)], args := [d1, d2, d3, d4] }
  | _ => none }
def cpuWaysRow : OpenClaim := { program := "ytkbahggepncliaagreatdoor", sum := "353d42b0364c43f95af5da1ebb1ae8209a1e7795cc5b24b2c9e8e496b190ea70", func := "ceiling/ceilinglaw28.CpuWays", spec := "cpuWays", unfollowed := true, recurses := true, named := ["ceiling/insn.rows", "strings.asciiSpace", "unicode.White_Space"], loops := true, plainKeys := false, apart := false, laid := [("unicode.White_Space", laid_unicode_White_Space), ("strings.asciiSpace", laid_strings_asciiSpace), ("ceiling/insn.rows", laid_ceiling_insn_rows)] }
def CpuWaysSaid : Prop := cpuWaysRow.holds Tryz.pinned (OpenSpec.ofChange cpuWaysSpec)

/-- ITS FALSE NEIGHBOUR: 'it returns false'. Refute it at one input. -/
def cpuWaysWrong : ChangeSpec := { name := "cpuWays", fn := fun _ => fun
  | [d1, d2, d3, d4] => { results := [.lit (.bool false)], args := [d1, d2, d3, d4] }
  | _ => none }
def CpuWaysWrongFalsely : Prop := cpuWaysRow.holds Tryz.pinned (OpenSpec.ofChange cpuWaysWrong)

/- THE SECOND FORM. 'bulk': how many values and letters a reading holds, each counted each time it is reached (what is shared counts as often as it is met; a slice's spare places count too). A statement '..UptoSaid' is the law's where the arguments, and the package variables that the reading takes, are together of bulk at most 1048576: NARROWER than '..Said'. Prove '..Said' where nothing that the law and all that it calls make is longer than what came in: it says more and counts as full. Else prove '..UptoSaid'. A law counts once. -/
mutual
def uptoBulk {H : Type} : DataW H → Nat
  | .lit (.string bytes) => bytes.length + 1
  | .lit _ => 1
  | .nil => 1
  | .ptr d => uptoBulk d + 1
  | .slice elems spare => uptoBulkAll elems + uptoBulkAll spare + 1
  | .agg parts => uptoBulkAll parts + 1
  | .iface _ d => uptoBulk d + 1
  | .map entries => uptoBulkEntries entries + 1
  | .held _ => 1
def uptoBulkAll {H : Type} : List (DataW H) → Nat
  | [] => 0
  | d :: r => uptoBulk d + uptoBulkAll r
def uptoBulkEntries {H : Type} : List (Lit × DataW H) → Nat
  | [] => 0
  | x :: r => uptoBulkEntry x + uptoBulkEntries r
def uptoBulkEntry {H : Type} : Lit × DataW H → Nat
  | (.string bytes, d) => bytes.length + uptoBulk d + 1
  | (_, d) => uptoBulk d + 1
 end
def uptoSmall : (H : Type) → List (DataW H) → Bool := fun _ ds => decide (uptoBulkAll ds ≤ 1048576)
def OpenSpec.upto (s : _root_.Go.ChangeSpec) : _root_.Go.OpenSpec := { _root_.Go.OpenSpec.ofChange s with cond := some uptoSmall }

/-- 'ceilinglaw28.CpuSums', WHERE WHAT IT READS IS OF BULK AT MOST 1048576: true; the input reads as it did. -/
def cpuSumsUptoRow : OpenClaim := { program := "ytkbahggepncliaagreatdoor", sum := "353d42b0364c43f95af5da1ebb1ae8209a1e7795cc5b24b2c9e8e496b190ea70", func := "ceiling/ceilinglaw28.CpuSums", spec := "cpuSums", unfollowed := true, recurses := true, named := ["ceiling/insn.rows", "strings.asciiSpace", "unicode.White_Space"], plainKeys := false, apart := false, laid := [("unicode.White_Space", laid_unicode_White_Space), ("strings.asciiSpace", laid_strings_asciiSpace), ("ceiling/insn.rows", laid_ceiling_insn_rows)], narrowed := true }
def CpuSumsUptoSaid : Prop := cpuSumsUptoRow.holds Tryz.pinned (OpenSpec.upto cpuSumsSpec)

/-- 'ceilinglaw28.CpuPasses', WHERE WHAT IT READS IS OF BULK AT MOST 1048576: true; the input reads as it did. -/
def cpuPassesUptoRow : OpenClaim := { program := "ytkbahggepncliaagreatdoor", sum := "353d42b0364c43f95af5da1ebb1ae8209a1e7795cc5b24b2c9e8e496b190ea70", func := "ceiling/ceilinglaw28.CpuPasses", spec := "cpuPasses", unfollowed := true, recurses := true, named := ["ceiling/insn.rows", "strings.asciiSpace", "unicode.White_Space"], loops := true, plainKeys := false, apart := false, laid := [("unicode.White_Space", laid_unicode_White_Space), ("strings.asciiSpace", laid_strings_asciiSpace), ("ceiling/insn.rows", laid_ceiling_insn_rows)], narrowed := true }
def CpuPassesUptoSaid : Prop := cpuPassesUptoRow.holds Tryz.pinned (OpenSpec.upto cpuPassesSpec)

/-- 'ceilinglaw28.CpuRuns', WHERE WHAT IT READS IS OF BULK AT MOST 1048576: true; the input reads as it did. -/
def cpuRunsUptoRow : OpenClaim := { program := "ytkbahggepncliaagreatdoor", sum := "353d42b0364c43f95af5da1ebb1ae8209a1e7795cc5b24b2c9e8e496b190ea70", func := "ceiling/ceilinglaw28.CpuRuns", spec := "cpuRuns", unfollowed := true, recurses := true, named := ["ceiling/insn.rows", "strings.asciiSpace", "unicode.White_Space"], loops := true, plainKeys := false, apart := false, laid := [("unicode.White_Space", laid_unicode_White_Space), ("strings.asciiSpace", laid_strings_asciiSpace), ("ceiling/insn.rows", laid_ceiling_insn_rows)], narrowed := true }
def CpuRunsUptoSaid : Prop := cpuRunsUptoRow.holds Tryz.pinned (OpenSpec.upto cpuRunsSpec)

/-- 'ceilinglaw28.CpuPlays', WHERE WHAT IT READS IS OF BULK AT MOST 1048576: true; the input reads as it did. -/
def cpuPlaysUptoRow : OpenClaim := { program := "ytkbahggepncliaagreatdoor", sum := "353d42b0364c43f95af5da1ebb1ae8209a1e7795cc5b24b2c9e8e496b190ea70", func := "ceiling/ceilinglaw28.CpuPlays", spec := "cpuPlays", unfollowed := true, recurses := true, named := ["ceiling/insn.rows", "strings.asciiSpace", "unicode.White_Space"], loops := true, plainKeys := false, apart := false, laid := [("unicode.White_Space", laid_unicode_White_Space), ("strings.asciiSpace", laid_strings_asciiSpace), ("ceiling/insn.rows", laid_ceiling_insn_rows)], narrowed := true }
def CpuPlaysUptoSaid : Prop := cpuPlaysUptoRow.holds Tryz.pinned (OpenSpec.upto cpuPlaysSpec)

/-- 'ceilinglaw28.CpuNone', WHERE WHAT IT READS IS OF BULK AT MOST 1048576: true; the input reads as it did. -/
def cpuNoneUptoRow : OpenClaim := { program := "ytkbahggepncliaagreatdoor", sum := "353d42b0364c43f95af5da1ebb1ae8209a1e7795cc5b24b2c9e8e496b190ea70", func := "ceiling/ceilinglaw28.CpuNone", spec := "cpuNone", unfollowed := true, recurses := true, named := ["ceiling/insn.rows", "strings.asciiSpace", "unicode.White_Space"], plainKeys := false, apart := false, laid := [("unicode.White_Space", laid_unicode_White_Space), ("strings.asciiSpace", laid_strings_asciiSpace), ("ceiling/insn.rows", laid_ceiling_insn_rows)], narrowed := true }
def CpuNoneUptoSaid : Prop := cpuNoneUptoRow.holds Tryz.pinned (OpenSpec.upto cpuNoneSpec)

/-- 'ceilinglaw28.CpuWays', WHERE WHAT IT READS IS OF BULK AT MOST 1048576: true; the input reads as it did. -/
def cpuWaysUptoRow : OpenClaim := { program := "ytkbahggepncliaagreatdoor", sum := "353d42b0364c43f95af5da1ebb1ae8209a1e7795cc5b24b2c9e8e496b190ea70", func := "ceiling/ceilinglaw28.CpuWays", spec := "cpuWays", unfollowed := true, recurses := true, named := ["ceiling/insn.rows", "strings.asciiSpace", "unicode.White_Space"], loops := true, plainKeys := false, apart := false, laid := [("unicode.White_Space", laid_unicode_White_Space), ("strings.asciiSpace", laid_strings_asciiSpace), ("ceiling/insn.rows", laid_ceiling_insn_rows)], narrowed := true }
def CpuWaysUptoSaid : Prop := cpuWaysUptoRow.holds Tryz.pinned (OpenSpec.upto cpuWaysSpec)

end Rows
end Go.Proofs.YtkbahggepncliaaGreatDoor
