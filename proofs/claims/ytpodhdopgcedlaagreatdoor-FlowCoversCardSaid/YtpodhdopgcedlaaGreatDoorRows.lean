/-
  NARROWER THAN 'FOR EVERY INPUT', by the rows' own cells (each row's printed sentence says how): FlowNext: loops, laid · FlowGraphs: laid · FlowCovers: loops, laid · FlowDoms: laid · FlowNested: laid.
  DERIVED. THE GIVEN ROWS OF THIS SEAT. 5 by the template 'for every input the law returns true; each argument reads behind the call as it read before'; 0 by the template 'total and deterministic' (their statements: YtpodhdopgcedlaaGreatDoorTotals.lean).
  GIVEN WITH THE SEED: the statements are not yours to turn. If you find one false, say at which input.
  Laid BY PROGRAM, IN A SANDBOX (cutbox-rows.mjs): the forced cells as the released guide's own fill.sh prints them over the translation accdd1a9acdd8021… (all of the seat's roots in one cut). By AI agents, Wed Nov 11 2026. No macro, syntax, notation, axiom, sorry.
-/
import Derived.Test.YtpodhdopgcedlaaGreatDoorChecked
import GoSem.Claim
import GoSem.ClaimJoined
import GoSem.ClaimMapViews
import Derived.JoinedTies
import Derived.KernelRfl
namespace Go.Proofs.YtpodhdopgcedlaaGreatDoor
/- THE CELL 'sum', in the pinned program and in every row, IS THE sha256 OF THE DUMP (.gsa) THAT YtpodhdopgcedlaaGreatDoorProg.lean LOADS. Nothing in Lean hashes anything: it is a label: what it is worth is what the hold of that sum in a sandbox is worth. -/
noncomputable def Tryz.pinned : Pinned := { name := "ytpodhdopgcedlaagreatdoor", sum := "accdd1a9acdd802126daa2076b184fc2b33e0ad688c04c99abab187b82d37baa", checked := Tryz.checked }
namespace Rows
def none {H : Type} : Left H := { results := [], args := [] }

/- WHAT THE LISTED PACKAGE-LEVEL VARIABLES READ AS WHEN THE CALL BEGINS. Each datum BY PROGRAM (the guide's laid-datum.mjs) off the statement by which the dump's own 'gosem.cut.vars' lays the variable. In a bare row this is a premise. The card (YtpodhdopgcedlaaGreatDoorCards.lean) ties it to the program's text. -/
def laid_unicode_White_Space {H : Type} : DataW H := .ptr (.agg [.slice [.agg [.lit (.int .u16 9), .lit (.int .u16 13), .lit (.int .u16 1)], .agg [.lit (.int .u16 32), .lit (.int .u16 133), .lit (.int .u16 101)], .agg [.lit (.int .u16 160), .lit (.int .u16 5760), .lit (.int .u16 5600)], .agg [.lit (.int .u16 8192), .lit (.int .u16 8202), .lit (.int .u16 1)], .agg [.lit (.int .u16 8232), .lit (.int .u16 8233), .lit (.int .u16 1)], .agg [.lit (.int .u16 8239), .lit (.int .u16 8287), .lit (.int .u16 48)], .agg [.lit (.int .u16 12288), .lit (.int .u16 12288), .lit (.int .u16 1)]] [], .nil, .lit (.int .i64 2)])
def laid_strings_asciiSpace {H : Type} : DataW H := .agg [.lit (.int .u8 0), .lit (.int .u8 0), .lit (.int .u8 0), .lit (.int .u8 0), .lit (.int .u8 0), .lit (.int .u8 0), .lit (.int .u8 0), .lit (.int .u8 0), .lit (.int .u8 0), .lit (.int .u8 1), .lit (.int .u8 1), .lit (.int .u8 1), .lit (.int .u8 1), .lit (.int .u8 1), .lit (.int .u8 0), .lit (.int .u8 0), .lit (.int .u8 0), .lit (.int .u8 0), .lit (.int .u8 0), .lit (.int .u8 0), .lit (.int .u8 0), .lit (.int .u8 0), .lit (.int .u8 0), .lit (.int .u8 0), .lit (.int .u8 0), .lit (.int .u8 0), .lit (.int .u8 0), .lit (.int .u8 0), .lit (.int .u8 0), .lit (.int .u8 0), .lit (.int .u8 0), .lit (.int .u8 0), .lit (.int .u8 1), .lit (.int .u8 0), .lit (.int .u8 0), .lit (.int .u8 0), .lit (.int .u8 0), .lit (.int .u8 0), .lit (.int .u8 0), .lit (.int .u8 0), .lit (.int .u8 0), .lit (.int .u8 0), .lit (.int .u8 0), .lit (.int .u8 0), .lit (.int .u8 0), .lit (.int .u8 0), .lit (.int .u8 0), .lit (.int .u8 0), .lit (.int .u8 0), .lit (.int .u8 0), .lit (.int .u8 0), .lit (.int .u8 0), .lit (.int .u8 0), .lit (.int .u8 0), .lit (.int .u8 0), .lit (.int .u8 0), .lit (.int .u8 0), .lit (.int .u8 0), .lit (.int .u8 0), .lit (.int .u8 0), .lit (.int .u8 0), .lit (.int .u8 0), .lit (.int .u8 0), .lit (.int .u8 0), .lit (.int .u8 0), .lit (.int .u8 0), .lit (.int .u8 0), .lit (.int .u8 0), .lit (.int .u8 0), .lit (.int .u8 0), .lit (.int .u8 0), .lit (.int .u8 0), .lit (.int .u8 0), .lit (.int .u8 0), .lit (.int .u8 0), .lit (.int .u8 0), .lit (.int .u8 0), .lit (.int .u8 0), .lit (.int .u8 0), .lit (.int .u8 0), .lit (.int .u8 0), .lit (.int .u8 0), .lit (.int .u8 0), .lit (.int .u8 0), .lit (.int .u8 0), .lit (.int .u8 0), .lit (.int .u8 0), .lit (.int .u8 0), .lit (.int .u8 0), .lit (.int .u8 0), .lit (.int .u8 0), .lit (.int .u8 0), .lit (.int .u8 0), .lit (.int .u8 0), .lit (.int .u8 0), .lit (.int .u8 0), .lit (.int .u8 0), .lit (.int .u8 0), .lit (.int .u8 0), .lit (.int .u8 0), .lit (.int .u8 0), .lit (.int .u8 0), .lit (.int .u8 0), .lit (.int .u8 0), .lit (.int .u8 0), .lit (.int .u8 0), .lit (.int .u8 0), .lit (.int .u8 0), .lit (.int .u8 0), .lit (.int .u8 0), .lit (.int .u8 0), .lit (.int .u8 0), .lit (.int .u8 0), .lit (.int .u8 0), .lit (.int .u8 0), .lit (.int .u8 0), .lit (.int .u8 0), .lit (.int .u8 0), .lit (.int .u8 0), .lit (.int .u8 0), .lit (.int .u8 0), .lit (.int .u8 0), .lit (.int .u8 0), .lit (.int .u8 0), .lit (.int .u8 0), .lit (.int .u8 0), .lit (.int .u8 0), .lit (.int .u8 0), .lit (.int .u8 0), .lit (.int .u8 0), .lit (.int .u8 0), .lit (.int .u8 0), .lit (.int .u8 0), .lit (.int .u8 0), .lit (.int .u8 0), .lit (.int .u8 0), .lit (.int .u8 0), .lit (.int .u8 0), .lit (.int .u8 0), .lit (.int .u8 0), .lit (.int .u8 0), .lit (.int .u8 0), .lit (.int .u8 0), .lit (.int .u8 0), .lit (.int .u8 0), .lit (.int .u8 0), .lit (.int .u8 0), .lit (.int .u8 0), .lit (.int .u8 0), .lit (.int .u8 0), .lit (.int .u8 0), .lit (.int .u8 0), .lit (.int .u8 0), .lit (.int .u8 0), .lit (.int .u8 0), .lit (.int .u8 0), .lit (.int .u8 0), .lit (.int .u8 0), .lit (.int .u8 0), .lit (.int .u8 0), .lit (.int .u8 0), .lit (.int .u8 0), .lit (.int .u8 0), .lit (.int .u8 0), .lit (.int .u8 0), .lit (.int .u8 0), .lit (.int .u8 0), .lit (.int .u8 0), .lit (.int .u8 0), .lit (.int .u8 0), .lit (.int .u8 0), .lit (.int .u8 0), .lit (.int .u8 0), .lit (.int .u8 0), .lit (.int .u8 0), .lit (.int .u8 0), .lit (.int .u8 0), .lit (.int .u8 0), .lit (.int .u8 0), .lit (.int .u8 0), .lit (.int .u8 0), .lit (.int .u8 0), .lit (.int .u8 0), .lit (.int .u8 0), .lit (.int .u8 0), .lit (.int .u8 0), .lit (.int .u8 0), .lit (.int .u8 0), .lit (.int .u8 0), .lit (.int .u8 0), .lit (.int .u8 0), .lit (.int .u8 0), .lit (.int .u8 0), .lit (.int .u8 0), .lit (.int .u8 0), .lit (.int .u8 0), .lit (.int .u8 0), .lit (.int .u8 0), .lit (.int .u8 0), .lit (.int .u8 0), .lit (.int .u8 0), .lit (.int .u8 0), .lit (.int .u8 0), .lit (.int .u8 0), .lit (.int .u8 0), .lit (.int .u8 0), .lit (.int .u8 0), .lit (.int .u8 0), .lit (.int .u8 0), .lit (.int .u8 0), .lit (.int .u8 0), .lit (.int .u8 0), .lit (.int .u8 0), .lit (.int .u8 0), .lit (.int .u8 0), .lit (.int .u8 0), .lit (.int .u8 0), .lit (.int .u8 0), .lit (.int .u8 0), .lit (.int .u8 0), .lit (.int .u8 0), .lit (.int .u8 0), .lit (.int .u8 0), .lit (.int .u8 0), .lit (.int .u8 0), .lit (.int .u8 0), .lit (.int .u8 0), .lit (.int .u8 0), .lit (.int .u8 0), .lit (.int .u8 0), .lit (.int .u8 0), .lit (.int .u8 0), .lit (.int .u8 0), .lit (.int .u8 0), .lit (.int .u8 0), .lit (.int .u8 0), .lit (.int .u8 0), .lit (.int .u8 0), .lit (.int .u8 0), .lit (.int .u8 0), .lit (.int .u8 0), .lit (.int .u8 0), .lit (.int .u8 0), .lit (.int .u8 0), .lit (.int .u8 0), .lit (.int .u8 0), .lit (.int .u8 0), .lit (.int .u8 0), .lit (.int .u8 0), .lit (.int .u8 0), .lit (.int .u8 0), .lit (.int .u8 0), .lit (.int .u8 0), .lit (.int .u8 0), .lit (.int .u8 0), .lit (.int .u8 0)]
def laid_ceiling_insn_rows {H : Type} : DataW H := .agg [.agg [.lit (.string [108, 105]), .lit (.string [68, 114, 32, 78, 118])], .agg [.lit (.string [109, 118]), .lit (.string [68, 114, 32, 65, 114])], .agg [.lit (.string [108, 100]), .lit (.string [68, 114, 32, 78, 111, 32, 77, 115])], .agg [.lit (.string [115, 116]), .lit (.string [65, 114, 32, 78, 111, 32, 77, 115])], .agg [.lit (.string [108, 100, 120]), .lit (.string [68, 114, 32, 65, 114, 32, 66, 108, 32, 78, 111, 32, 77, 115])], .agg [.lit (.string [115, 116, 120]), .lit (.string [68, 114, 32, 65, 114, 32, 66, 108, 32, 78, 111, 32, 77, 115])], .agg [.lit (.string [108, 100, 97]), .lit (.string [68, 114, 32, 65, 114])], .agg [.lit (.string [115, 116, 97]), .lit (.string [68, 114, 32, 65, 114])], .agg [.lit (.string [97, 100, 100]), .lit (.string [68, 114, 32, 65, 114, 32, 66, 114])], .agg [.lit (.string [115, 117, 98]), .lit (.string [68, 114, 32, 65, 114, 32, 66, 114])], .agg [.lit (.string [109, 117, 108]), .lit (.string [68, 114, 32, 65, 114, 32, 66, 114])], .agg [.lit (.string [100, 105, 118]), .lit (.string [68, 114, 32, 65, 114, 32, 66, 114])], .agg [.lit (.string [114, 101, 109]), .lit (.string [68, 114, 32, 65, 114, 32, 66, 114])], .agg [.lit (.string [109, 111, 100]), .lit (.string [68, 114, 32, 65, 114, 32, 66, 114])], .agg [.lit (.string [101, 113]), .lit (.string [68, 114, 32, 65, 114, 32, 66, 114])], .agg [.lit (.string [110, 101]), .lit (.string [68, 114, 32, 65, 114, 32, 66, 114])], .agg [.lit (.string [108, 116]), .lit (.string [68, 114, 32, 65, 114, 32, 66, 114])], .agg [.lit (.string [108, 101]), .lit (.string [68, 114, 32, 65, 114, 32, 66, 114])], .agg [.lit (.string [103, 116]), .lit (.string [68, 114, 32, 65, 114, 32, 66, 114])], .agg [.lit (.string [103, 101]), .lit (.string [68, 114, 32, 65, 114, 32, 66, 114])], .agg [.lit (.string [97, 110, 100]), .lit (.string [68, 114, 32, 65, 114, 32, 66, 114])], .agg [.lit (.string [111, 114]), .lit (.string [68, 114, 32, 65, 114, 32, 66, 114])], .agg [.lit (.string [120, 111, 114]), .lit (.string [68, 114, 32, 65, 114, 32, 66, 114])], .agg [.lit (.string [110, 101, 103]), .lit (.string [68, 114, 32, 65, 114])], .agg [.lit (.string [97, 98, 115]), .lit (.string [68, 114, 32, 65, 114])], .agg [.lit (.string [110, 111, 116]), .lit (.string [68, 114, 32, 65, 114])], .agg [.lit (.string [99, 104, 107]), .lit (.string [65, 114, 32, 78, 118, 32, 77, 118])], .agg [.lit (.string [99, 104, 107, 122]), .lit (.string [65, 114])], .agg [.lit (.string [106, 109, 112]), .lit (.string [84, 115])], .agg [.lit (.string [106, 122]), .lit (.string [65, 114, 32, 84, 115])], .agg [.lit (.string [106, 110, 122]), .lit (.string [65, 114, 32, 84, 115])], .agg [.lit (.string [106, 116]), .lit (.string [65, 114, 32, 78, 118, 32, 77, 108, 32, 84, 115])], .agg [.lit (.string [114, 97, 105, 115, 101]), .lit (.string [78, 120])], .agg [.lit (.string [114, 97, 105, 115, 101, 114]), .lit (.string [65, 114])], .agg [.lit (.string [99, 111, 110, 116]), .lit (.string [65, 114])], .agg [.lit (.string [101, 120, 99]), .lit (.string [68, 114])], .agg [.lit (.string [109, 97, 114, 107]), .lit (.string [78, 107, 32, 77, 115])], .agg [.lit (.string [103, 101, 116]), .lit (.string [68, 114])], .agg [.lit (.string [112, 117, 116]), .lit (.string [65, 114])], .agg [.lit (.string [100, 101, 102, 101, 114]), .lit (.string [])], .agg [.lit (.string [97, 108, 108, 111, 119]), .lit (.string [])], .agg [.lit (.string [99, 108, 111, 99, 107]), .lit (.string [68, 114])], .agg [.lit (.string [99, 111, 117, 110, 116]), .lit (.string [68, 114, 32, 78, 101, 32, 77, 113])], .agg [.lit (.string [115, 116, 97, 114, 116]), .lit (.string [78, 115])], .agg [.lit (.string [110, 101, 118, 101, 114]), .lit (.string [78, 115])], .agg [.lit (.string [97, 119, 97, 105, 116]), .lit (.string [65, 114, 32, 78, 115])], .agg [.lit (.string [100, 101, 108, 97, 121]), .lit (.string [65, 114])], .agg [.lit (.string [117, 110, 116, 105, 108]), .lit (.string [65, 114])], .agg [.lit (.string [99, 97, 108, 108]), .lit (.string [68, 114, 32, 65, 112, 32, 66, 101, 32, 78, 111, 32, 77, 109])], .agg [.lit (.string [115, 101, 108]), .lit (.string [78, 106])], .agg [.lit (.string [100, 111, 110, 101]), .lit (.string [78, 98])], .agg [.lit (.string [114, 101, 113]), .lit (.string [65, 112, 32, 66, 101, 32, 78, 98, 32, 84, 115])], .agg [.lit (.string [108, 111, 99, 107]), .lit (.string [78, 112])], .agg [.lit (.string [112, 101, 110, 116]), .lit (.string [68, 114, 32, 65, 114, 32, 66, 109, 32, 78, 112, 32, 77, 101])], .agg [.lit (.string [117, 110, 108, 111, 99, 107]), .lit (.string [78, 112])], .agg [.lit (.string [97, 98, 111, 114, 116]), .lit (.string [78, 115])], .agg [.lit (.string [101, 110, 100]), .lit (.string [])]]

/-- 'ceilinglaw25.FlowNext': WHATEVER THE INPUT: true; the input reads as it did. -/
def flowNextSpec : ChangeSpec := { name := "flowNext", fn := fun _ => fun
  | [d1, d2] => { results := [.lit (.bool true)], args := [d1, d2] }
  | _ => none }
def flowNextRow : OpenClaim := { program := "ytpodhdopgcedlaagreatdoor", sum := "accdd1a9acdd802126daa2076b184fc2b33e0ad688c04c99abab187b82d37baa", func := "ceiling/ceilinglaw25.FlowNext", spec := "flowNext", unfollowed := true, recurses := true, named := ["ceiling/insn.rows", "strings.asciiSpace", "unicode.White_Space"], loops := true, plainKeys := false, apart := false, laid := [("unicode.White_Space", laid_unicode_White_Space), ("strings.asciiSpace", laid_strings_asciiSpace), ("ceiling/insn.rows", laid_ceiling_insn_rows)] }
def FlowNextSaid : Prop := flowNextRow.holds Tryz.pinned (OpenSpec.ofChange flowNextSpec)

/-- ITS FALSE NEIGHBOUR: 'it returns false'. Refute it at one input. -/
def flowNextWrong : ChangeSpec := { name := "flowNext", fn := fun _ => fun
  | [d1, d2] => { results := [.lit (.bool false)], args := [d1, d2] }
  | _ => none }
def FlowNextWrongFalsely : Prop := flowNextRow.holds Tryz.pinned (OpenSpec.ofChange flowNextWrong)

/-- 'ceilinglaw25.FlowGraphs': WHATEVER THE INPUT: true; the input reads as it did. -/
def flowGraphsSpec : ChangeSpec := { name := "flowGraphs", fn := fun _ => fun
  | [d1, d2] => { results := [.lit (.bool true)], args := [d1, d2] }
  | _ => none }
def flowGraphsRow : OpenClaim := { program := "ytpodhdopgcedlaagreatdoor", sum := "accdd1a9acdd802126daa2076b184fc2b33e0ad688c04c99abab187b82d37baa", func := "ceiling/ceilinglaw25.FlowGraphs", spec := "flowGraphs", unfollowed := true, recurses := true, named := ["ceiling/insn.rows", "strings.asciiSpace", "unicode.White_Space"], plainKeys := false, apart := false, laid := [("unicode.White_Space", laid_unicode_White_Space), ("strings.asciiSpace", laid_strings_asciiSpace), ("ceiling/insn.rows", laid_ceiling_insn_rows)] }
def FlowGraphsSaid : Prop := flowGraphsRow.holds Tryz.pinned (OpenSpec.ofChange flowGraphsSpec)

/-- ITS FALSE NEIGHBOUR: 'it returns false'. Refute it at one input. -/
def flowGraphsWrong : ChangeSpec := { name := "flowGraphs", fn := fun _ => fun
  | [d1, d2] => { results := [.lit (.bool false)], args := [d1, d2] }
  | _ => none }
def FlowGraphsWrongFalsely : Prop := flowGraphsRow.holds Tryz.pinned (OpenSpec.ofChange flowGraphsWrong)

/-- 'ceilinglaw25.FlowCovers': WHATEVER THE INPUT: true; the input reads as it did. -/
def flowCoversSpec : ChangeSpec := { name := "flowCovers", fn := fun _ => fun
  | [d1, d2] => { results := [.lit (.bool true)], args := [d1, d2] }
  | _ => none }
def flowCoversRow : OpenClaim := { program := "ytpodhdopgcedlaagreatdoor", sum := "accdd1a9acdd802126daa2076b184fc2b33e0ad688c04c99abab187b82d37baa", func := "ceiling/ceilinglaw25.FlowCovers", spec := "flowCovers", unfollowed := true, recurses := true, named := ["ceiling/insn.rows", "strings.asciiSpace", "unicode.White_Space"], loops := true, plainKeys := false, apart := false, laid := [("unicode.White_Space", laid_unicode_White_Space), ("strings.asciiSpace", laid_strings_asciiSpace), ("ceiling/insn.rows", laid_ceiling_insn_rows)] }
def FlowCoversSaid : Prop := flowCoversRow.holds Tryz.pinned (OpenSpec.ofChange flowCoversSpec)

/-- ITS FALSE NEIGHBOUR: 'it returns false'. Refute it at one input. -/
def flowCoversWrong : ChangeSpec := { name := "flowCovers", fn := fun _ => fun
  | [d1, d2] => { results := [.lit (.bool false)], args := [d1, d2] }
  | _ => none }
def FlowCoversWrongFalsely : Prop := flowCoversRow.holds Tryz.pinned (OpenSpec.ofChange flowCoversWrong)

/-- 'ceilinglaw25.FlowDoms': WHATEVER THE INPUT: true; the input reads as it did. -/
def flowDomsSpec : ChangeSpec := { name := "flowDoms", fn := fun _ => fun
  | [d1, d2] => { results := [.lit (.bool true)], args := [d1, d2] }
  | _ => none }
def flowDomsRow : OpenClaim := { program := "ytpodhdopgcedlaagreatdoor", sum := "accdd1a9acdd802126daa2076b184fc2b33e0ad688c04c99abab187b82d37baa", func := "ceiling/ceilinglaw25.FlowDoms", spec := "flowDoms", unfollowed := true, recurses := true, named := ["ceiling/insn.rows", "strings.asciiSpace", "unicode.White_Space"], plainKeys := false, apart := false, laid := [("unicode.White_Space", laid_unicode_White_Space), ("strings.asciiSpace", laid_strings_asciiSpace), ("ceiling/insn.rows", laid_ceiling_insn_rows)] }
def FlowDomsSaid : Prop := flowDomsRow.holds Tryz.pinned (OpenSpec.ofChange flowDomsSpec)

/-- ITS FALSE NEIGHBOUR: 'it returns false'. Refute it at one input. -/
def flowDomsWrong : ChangeSpec := { name := "flowDoms", fn := fun _ => fun
  | [d1, d2] => { results := [.lit (.bool false)], args := [d1, d2] }
  | _ => none }
def FlowDomsWrongFalsely : Prop := flowDomsRow.holds Tryz.pinned (OpenSpec.ofChange flowDomsWrong)

/-- 'ceilinglaw25.FlowNested': WHATEVER THE INPUT: true; the input reads as it did. -/
def flowNestedSpec : ChangeSpec := { name := "flowNested", fn := fun _ => fun
  | [d] => { results := [.lit (.bool true)], args := [d] }
  | _ => none }
def flowNestedRow : OpenClaim := { program := "ytpodhdopgcedlaagreatdoor", sum := "accdd1a9acdd802126daa2076b184fc2b33e0ad688c04c99abab187b82d37baa", func := "ceiling/ceilinglaw25.FlowNested", spec := "flowNested", unfollowed := true, recurses := true, named := ["ceiling/insn.rows", "strings.asciiSpace", "unicode.White_Space"], plainKeys := false, apart := false, laid := [("unicode.White_Space", laid_unicode_White_Space), ("strings.asciiSpace", laid_strings_asciiSpace), ("ceiling/insn.rows", laid_ceiling_insn_rows)] }
def FlowNestedSaid : Prop := flowNestedRow.holds Tryz.pinned (OpenSpec.ofChange flowNestedSpec)

/-- ITS FALSE NEIGHBOUR: 'it returns false'. Refute it at one input. -/
def flowNestedWrong : ChangeSpec := { name := "flowNested", fn := fun _ => fun
  | [d] => { results := [.lit (.bool false)], args := [d] }
  | _ => none }
def FlowNestedWrongFalsely : Prop := flowNestedRow.holds Tryz.pinned (OpenSpec.ofChange flowNestedWrong)

/- THE SECOND FORM. 'bulk': how many values and letters a reading holds, each counted each time it is reached (what is shared counts as often as it is met; a slice's spare places count too). A statement '..UptoSaid' is the law's where the arguments, and the package variables that the reading takes, are together of bulk at most 1048576: NARROWER than '..Said'. Prove '..Said' where nothing that the law and all that it calls make is longer than what came in: it says more and counts as full. Else prove '..UptoSaid'. A law counts once. -/
mutual
def uptoBulk {H : Type} : DataW H → Nat
  | .lit (.string bytes) => bytes.length + 1
  | .lit _ => 1
  | .nil => 1
  | .ptr d => uptoBulk d + 1
  | .slice elems spare => uptoBulkAll elems + uptoBulkAll spare + 1
  | .agg parts => uptoBulkAll parts + 1
  | .iface _ d => uptoBulk d + 1
  | .map entries => uptoBulkEntries entries + 1
  | .held _ => 1
def uptoBulkAll {H : Type} : List (DataW H) → Nat
  | [] => 0
  | d :: r => uptoBulk d + uptoBulkAll r
def uptoBulkEntries {H : Type} : List (Lit × DataW H) → Nat
  | [] => 0
  | x :: r => uptoBulkEntry x + uptoBulkEntries r
def uptoBulkEntry {H : Type} : Lit × DataW H → Nat
  | (.string bytes, d) => bytes.length + uptoBulk d + 1
  | (_, d) => uptoBulk d + 1
 end
def uptoSmall : (H : Type) → List (DataW H) → Bool := fun _ ds => decide (uptoBulkAll ds ≤ 1048576)
def OpenSpec.upto (s : _root_.Go.ChangeSpec) : _root_.Go.OpenSpec := { _root_.Go.OpenSpec.ofChange s with cond := some uptoSmall }

/-- 'ceilinglaw25.FlowNext', WHERE WHAT IT READS IS OF BULK AT MOST 1048576: true; the input reads as it did. -/
def flowNextUptoRow : OpenClaim := { program := "ytpodhdopgcedlaagreatdoor", sum := "accdd1a9acdd802126daa2076b184fc2b33e0ad688c04c99abab187b82d37baa", func := "ceiling/ceilinglaw25.FlowNext", spec := "flowNext", unfollowed := true, recurses := true, named := ["ceiling/insn.rows", "strings.asciiSpace", "unicode.White_Space"], loops := true, plainKeys := false, apart := false, laid := [("unicode.White_Space", laid_unicode_White_Space), ("strings.asciiSpace", laid_strings_asciiSpace), ("ceiling/insn.rows", laid_ceiling_insn_rows)], narrowed := true }
def FlowNextUptoSaid : Prop := flowNextUptoRow.holds Tryz.pinned (OpenSpec.upto flowNextSpec)

/-- 'ceilinglaw25.FlowGraphs', WHERE WHAT IT READS IS OF BULK AT MOST 1048576: true; the input reads as it did. -/
def flowGraphsUptoRow : OpenClaim := { program := "ytpodhdopgcedlaagreatdoor", sum := "accdd1a9acdd802126daa2076b184fc2b33e0ad688c04c99abab187b82d37baa", func := "ceiling/ceilinglaw25.FlowGraphs", spec := "flowGraphs", unfollowed := true, recurses := true, named := ["ceiling/insn.rows", "strings.asciiSpace", "unicode.White_Space"], plainKeys := false, apart := false, laid := [("unicode.White_Space", laid_unicode_White_Space), ("strings.asciiSpace", laid_strings_asciiSpace), ("ceiling/insn.rows", laid_ceiling_insn_rows)], narrowed := true }
def FlowGraphsUptoSaid : Prop := flowGraphsUptoRow.holds Tryz.pinned (OpenSpec.upto flowGraphsSpec)

/-- 'ceilinglaw25.FlowCovers', WHERE WHAT IT READS IS OF BULK AT MOST 1048576: true; the input reads as it did. -/
def flowCoversUptoRow : OpenClaim := { program := "ytpodhdopgcedlaagreatdoor", sum := "accdd1a9acdd802126daa2076b184fc2b33e0ad688c04c99abab187b82d37baa", func := "ceiling/ceilinglaw25.FlowCovers", spec := "flowCovers", unfollowed := true, recurses := true, named := ["ceiling/insn.rows", "strings.asciiSpace", "unicode.White_Space"], loops := true, plainKeys := false, apart := false, laid := [("unicode.White_Space", laid_unicode_White_Space), ("strings.asciiSpace", laid_strings_asciiSpace), ("ceiling/insn.rows", laid_ceiling_insn_rows)], narrowed := true }
def FlowCoversUptoSaid : Prop := flowCoversUptoRow.holds Tryz.pinned (OpenSpec.upto flowCoversSpec)

/-- 'ceilinglaw25.FlowDoms', WHERE WHAT IT READS IS OF BULK AT MOST 1048576: true; the input reads as it did. -/
def flowDomsUptoRow : OpenClaim := { program := "ytpodhdopgcedlaagreatdoor", sum := "accdd1a9acdd802126daa2076b184fc2b33e0ad688c04c99abab187b82d37baa", func := "ceiling/ceilinglaw25.FlowDoms", spec := "flowDoms", unfollowed := true, recurses := true, named := ["ceiling/insn.rows", "strings.asciiSpace", "unicode.White_Space"], plainKeys := false, apart := false, laid := [("unicode.White_Space", laid_unicode_White_Space), ("strings.asciiSpace", laid_strings_asciiSpace), ("ceiling/insn.rows", laid_ceiling_insn_rows)], narrowed := true }
def FlowDomsUptoSaid : Prop := flowDomsUptoRow.holds Tryz.pinned (OpenSpec.upto flowDomsSpec)

/-- 'ceilinglaw25.FlowNested', WHERE WHAT IT READS IS OF BULK AT MOST 1048576: true; the input reads as it did. -/
def flowNestedUptoRow : OpenClaim := { program := "ytpodhdopgcedlaagreatdoor", sum := "accdd1a9acdd802126daa2076b184fc2b33e0ad688c04c99abab187b82d37baa", func := "ceiling/ceilinglaw25.FlowNested", spec := "flowNested", unfollowed := true, recurses := true, named := ["ceiling/insn.rows", "strings.asciiSpace", "unicode.White_Space"], plainKeys := false, apart := false, laid := [("unicode.White_Space", laid_unicode_White_Space), ("strings.asciiSpace", laid_strings_asciiSpace), ("ceiling/insn.rows", laid_ceiling_insn_rows)], narrowed := true }
def FlowNestedUptoSaid : Prop := flowNestedUptoRow.holds Tryz.pinned (OpenSpec.upto flowNestedSpec)

end Rows
end Go.Proofs.YtpodhdopgcedlaaGreatDoor
