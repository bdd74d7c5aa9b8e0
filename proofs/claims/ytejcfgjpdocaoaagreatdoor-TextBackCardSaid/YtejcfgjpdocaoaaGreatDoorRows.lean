/-
  NARROWER THAN 'FOR EVERY INPUT', by the rows' own cells (each row's printed sentence says how): TextMay: loops, laid · TextAt: loops, laid · TextGet: laid · TextBack: loops, laid · TextTwice: loops, laid.
  DERIVED. THE GIVEN ROWS OF THIS SEAT. 5 by the template 'for every input the law returns true; each argument reads behind the call as it read before'; 0 by the template 'total and deterministic' (their statements: YtejcfgjpdocaoaaGreatDoorTotals.lean).
  GIVEN WITH THE SEED: the statements are not yours to turn. If you find one false, say at which input.
  Laid BY PROGRAM, IN A SANDBOX (cutbox-rows.mjs): the forced cells as the released guide's own fill.sh prints them over the translation e309f1bf34fddb1d… (all of the seat's roots in one cut). By AI agents, Wed Nov 11 2026. No macro, syntax, notation, axiom, sorry.
-/
import Derived.Test.YtejcfgjpdocaoaaGreatDoorChecked
import GoSem.Claim
import GoSem.ClaimJoined
import GoSem.ClaimMapViews
import Derived.JoinedTies
import Derived.KernelRfl
namespace Go.Proofs.YtejcfgjpdocaoaaGreatDoor
/- THE CELL 'sum', in the pinned program and in every row, IS THE sha256 OF THE DUMP (.gsa) THAT YtejcfgjpdocaoaaGreatDoorProg.lean LOADS. Nothing in Lean hashes anything: it is a label: what it is worth is what the hold of that sum in a sandbox is worth. -/
noncomputable def Tryz.pinned : Pinned := { name := "ytejcfgjpdocaoaagreatdoor", sum := "e309f1bf34fddb1dedd59a20c9b66c2fb5bff7b2b956c896a175181986f456d8", checked := Tryz.checked }
namespace Rows
def none {H : Type} : Left H := { results := [], args := [] }

/- WHAT THE LISTED PACKAGE-LEVEL VARIABLES READ AS WHEN THE CALL BEGINS. Each datum BY PROGRAM (the guide's laid-datum.mjs) off the statement by which the dump's own 'gosem.cut.vars' lays the variable. In a bare row this is a premise. The card (YtejcfgjpdocaoaaGreatDoorCards.lean) ties it to the program's text. -/
def laid_unicode_White_Space {H : Type} : DataW H := .ptr (.agg [.slice [.agg [.lit (.int .u16 9), .lit (.int .u16 13), .lit (.int .u16 1)], .agg [.lit (.int .u16 32), .lit (.int .u16 133), .lit (.int .u16 101)], .agg [.lit (.int .u16 160), .lit (.int .u16 5760), .lit (.int .u16 5600)], .agg [.lit (.int .u16 8192), .lit (.int .u16 8202), .lit (.int .u16 1)], .agg [.lit (.int .u16 8232), .lit (.int .u16 8233), .lit (.int .u16 1)], .agg [.lit (.int .u16 8239), .lit (.int .u16 8287), .lit (.int .u16 48)], .agg [.lit (.int .u16 12288), .lit (.int .u16 12288), .lit (.int .u16 1)]] [], .nil, .lit (.int .i64 2)])
def laid_strings_asciiSpace {H : Type} : DataW H := .agg [.lit (.int .u8 0), .lit (.int .u8 0), .lit (.int .u8 0), .lit (.int .u8 0), .lit (.int .u8 0), .lit (.int .u8 0), .lit (.int .u8 0), .lit (.int .u8 0), .lit (.int .u8 0), .lit (.int .u8 1), .lit (.int .u8 1), .lit (.int .u8 1), .lit (.int .u8 1), .lit (.int .u8 1), .lit (.int .u8 0), .lit (.int .u8 0), .lit (.int .u8 0), .lit (.int .u8 0), .lit (.int .u8 0), .lit (.int .u8 0), .lit (.int .u8 0), .lit (.int .u8 0), .lit (.int .u8 0), .lit (.int .u8 0), .lit (.int .u8 0), .lit (.int .u8 0), .lit (.int .u8 0), .lit (.int .u8 0), .lit (.int .u8 0), .lit (.int .u8 0), .lit (.int .u8 0), .lit (.int .u8 0), .lit (.int .u8 1), .lit (.int .u8 0), .lit (.int .u8 0), .lit (.int .u8 0), .lit (.int .u8 0), .lit (.int .u8 0), .lit (.int .u8 0), .lit (.int .u8 0), .lit (.int .u8 0), .lit (.int .u8 0), .lit (.int .u8 0), .lit (.int .u8 0), .lit (.int .u8 0), .lit (.int .u8 0), .lit (.int .u8 0), .lit (.int .u8 0), .lit (.int .u8 0), .lit (.int .u8 0), .lit (.int .u8 0), .lit (.int .u8 0), .lit (.int .u8 0), .lit (.int .u8 0), .lit (.int .u8 0), .lit (.int .u8 0), .lit (.int .u8 0), .lit (.int .u8 0), .lit (.int .u8 0), .lit (.int .u8 0), .lit (.int .u8 0), .lit (.int .u8 0), .lit (.int .u8 0), .lit (.int .u8 0), .lit (.int .u8 0), .lit (.int .u8 0), .lit (.int .u8 0), .lit (.int .u8 0), .lit (.int .u8 0), .lit (.int .u8 0), .lit (.int .u8 0), .lit (.int .u8 0), .lit (.int .u8 0), .lit (.int .u8 0), .lit (.int .u8 0), .lit (.int .u8 0), .lit (.int .u8 0), .lit (.int .u8 0), .lit (.int .u8 0), .lit (.int .u8 0), .lit (.int .u8 0), .lit (.int .u8 0), .lit (.int .u8 0), .lit (.int .u8 0), .lit (.int .u8 0), .lit (.int .u8 0), .lit (.int .u8 0), .lit (.int .u8 0), .lit (.int .u8 0), .lit (.int .u8 0), .lit (.int .u8 0), .lit (.int .u8 0), .lit (.int .u8 0), .lit (.int .u8 0), .lit (.int .u8 0), .lit (.int .u8 0), .lit (.int .u8 0), .lit (.int .u8 0), .lit (.int .u8 0), .lit (.int .u8 0), .lit (.int .u8 0), .lit (.int .u8 0), .lit (.int .u8 0), .lit (.int .u8 0), .lit (.int .u8 0), .lit (.int .u8 0), .lit (.int .u8 0), .lit (.int .u8 0), .lit (.int .u8 0), .lit (.int .u8 0), .lit (.int .u8 0), .lit (.int .u8 0), .lit (.int .u8 0), .lit (.int .u8 0), .lit (.int .u8 0), .lit (.int .u8 0), .lit (.int .u8 0), .lit (.int .u8 0), .lit (.int .u8 0), .lit (.int .u8 0), .lit (.int .u8 0), .lit (.int .u8 0), .lit (.int .u8 0), .lit (.int .u8 0), .lit (.int .u8 0), .lit (.int .u8 0), .lit (.int .u8 0), .lit (.int .u8 0), .lit (.int .u8 0), .lit (.int .u8 0), .lit (.int .u8 0), .lit (.int .u8 0), .lit (.int .u8 0), .lit (.int .u8 0), .lit (.int .u8 0), .lit (.int .u8 0), .lit (.int .u8 0), .lit (.int .u8 0), .lit (.int .u8 0), .lit (.int .u8 0), .lit (.int .u8 0), .lit (.int .u8 0), .lit (.int .u8 0), .lit (.int .u8 0), .lit (.int .u8 0), .lit (.int .u8 0), .lit (.int .u8 0), .lit (.int .u8 0), .lit (.int .u8 0), .lit (.int .u8 0), .lit (.int .u8 0), .lit (.int .u8 0), .lit (.int .u8 0), .lit (.int .u8 0), .lit (.int .u8 0), .lit (.int .u8 0), .lit (.int .u8 0), .lit (.int .u8 0), .lit (.int .u8 0), .lit (.int .u8 0), .lit (.int .u8 0), .lit (.int .u8 0), .lit (.int .u8 0), .lit (.int .u8 0), .lit (.int .u8 0), .lit (.int .u8 0), .lit (.int .u8 0), .lit (.int .u8 0), .lit (.int .u8 0), .lit (.int .u8 0), .lit (.int .u8 0), .lit (.int .u8 0), .lit (.int .u8 0), .lit (.int .u8 0), .lit (.int .u8 0), .lit (.int .u8 0), .lit (.int .u8 0), .lit (.int .u8 0), .lit (.int .u8 0), .lit (.int .u8 0), .lit (.int .u8 0), .lit (.int .u8 0), .lit (.int .u8 0), .lit (.int .u8 0), .lit (.int .u8 0), .lit (.int .u8 0), .lit (.int .u8 0), .lit (.int .u8 0), .lit (.int .u8 0), .lit (.int .u8 0), .lit (.int .u8 0), .lit (.int .u8 0), .lit (.int .u8 0), .lit (.int .u8 0), .lit (.int .u8 0), .lit (.int .u8 0), .lit (.int .u8 0), .lit (.int .u8 0), .lit (.int .u8 0), .lit (.int .u8 0), .lit (.int .u8 0), .lit (.int .u8 0), .lit (.int .u8 0), .lit (.int .u8 0), .lit (.int .u8 0), .lit (.int .u8 0), .lit (.int .u8 0), .lit (.int .u8 0), .lit (.int .u8 0), .lit (.int .u8 0), .lit (.int .u8 0), .lit (.int .u8 0), .lit (.int .u8 0), .lit (.int .u8 0), .lit (.int .u8 0), .lit (.int .u8 0), .lit (.int .u8 0), .lit (.int .u8 0), .lit (.int .u8 0), .lit (.int .u8 0), .lit (.int .u8 0), .lit (.int .u8 0), .lit (.int .u8 0), .lit (.int .u8 0), .lit (.int .u8 0), .lit (.int .u8 0), .lit (.int .u8 0), .lit (.int .u8 0), .lit (.int .u8 0), .lit (.int .u8 0), .lit (.int .u8 0), .lit (.int .u8 0), .lit (.int .u8 0), .lit (.int .u8 0), .lit (.int .u8 0), .lit (.int .u8 0), .lit (.int .u8 0), .lit (.int .u8 0), .lit (.int .u8 0), .lit (.int .u8 0), .lit (.int .u8 0), .lit (.int .u8 0), .lit (.int .u8 0), .lit (.int .u8 0), .lit (.int .u8 0), .lit (.int .u8 0), .lit (.int .u8 0), .lit (.int .u8 0), .lit (.int .u8 0), .lit (.int .u8 0), .lit (.int .u8 0), .lit (.int .u8 0), .lit (.int .u8 0), .lit (.int .u8 0), .lit (.int .u8 0), .lit (.int .u8 0)]
def laid_ceiling_insn_rows {H : Type} : DataW H := .agg [.agg [.lit (.string [108, 105]), .lit (.string [68, 114, 32, 78, 118])], .agg [.lit (.string [109, 118]), .lit (.string [68, 114, 32, 65, 114])], .agg [.lit (.string [108, 100]), .lit (.string [68, 114, 32, 78, 111, 32, 77, 115])], .agg [.lit (.string [115, 116]), .lit (.string [65, 114, 32, 78, 111, 32, 77, 115])], .agg [.lit (.string [108, 100, 120]), .lit (.string [68, 114, 32, 65, 114, 32, 66, 108, 32, 78, 111, 32, 77, 115])], .agg [.lit (.string [115, 116, 120]), .lit (.string [68, 114, 32, 65, 114, 32, 66, 108, 32, 78, 111, 32, 77, 115])], .agg [.lit (.string [108, 100, 97]), .lit (.string [68, 114, 32, 65, 114])], .agg [.lit (.string [115, 116, 97]), .lit (.string [68, 114, 32, 65, 114])], .agg [.lit (.string [97, 100, 100]), .lit (.string [68, 114, 32, 65, 114, 32, 66, 114])], .agg [.lit (.string [115, 117, 98]), .lit (.string [68, 114, 32, 65, 114, 32, 66, 114])], .agg [.lit (.string [109, 117, 108]), .lit (.string [68, 114, 32, 65, 114, 32, 66, 114])], .agg [.lit (.string [100, 105, 118]), .lit (.string [68, 114, 32, 65, 114, 32, 66, 114])], .agg [.lit (.string [114, 101, 109]), .lit (.string [68, 114, 32, 65, 114, 32, 66, 114])], .agg [.lit (.string [109, 111, 100]), .lit (.string [68, 114, 32, 65, 114, 32, 66, 114])], .agg [.lit (.string [101, 113]), .lit (.string [68, 114, 32, 65, 114, 32, 66, 114])], .agg [.lit (.string [110, 101]), .lit (.string [68, 114, 32, 65, 114, 32, 66, 114])], .agg [.lit (.string [108, 116]), .lit (.string [68, 114, 32, 65, 114, 32, 66, 114])], .agg [.lit (.string [108, 101]), .lit (.string [68, 114, 32, 65, 114, 32, 66, 114])], .agg [.lit (.string [103, 116]), .lit (.string [68, 114, 32, 65, 114, 32, 66, 114])], .agg [.lit (.string [103, 101]), .lit (.string [68, 114, 32, 65, 114, 32, 66, 114])], .agg [.lit (.string [97, 110, 100]), .lit (.string [68, 114, 32, 65, 114, 32, 66, 114])], .agg [.lit (.string [111, 114]), .lit (.string [68, 114, 32, 65, 114, 32, 66, 114])], .agg [.lit (.string [120, 111, 114]), .lit (.string [68, 114, 32, 65, 114, 32, 66, 114])], .agg [.lit (.string [110, 101, 103]), .lit (.string [68, 114, 32, 65, 114])], .agg [.lit (.string [97, 98, 115]), .lit (.string [68, 114, 32, 65, 114])], .agg [.lit (.string [110, 111, 116]), .lit (.string [68, 114, 32, 65, 114])], .agg [.lit (.string [99, 104, 107]), .lit (.string [65, 114, 32, 78, 118, 32, 77, 118])], .agg [.lit (.string [99, 104, 107, 122]), .lit (.string [65, 114])], .agg [.lit (.string [106, 109, 112]), .lit (.string [84, 115])], .agg [.lit (.string [106, 122]), .lit (.string [65, 114, 32, 84, 115])], .agg [.lit (.string [106, 110, 122]), .lit (.string [65, 114, 32, 84, 115])], .agg [.lit (.string [106, 116]), .lit (.string [65, 114, 32, 78, 118, 32, 77, 108, 32, 84, 115])], .agg [.lit (.string [114, 97, 105, 115, 101]), .lit (.string [78, 120])], .agg [.lit (.string [114, 97, 105, 115, 101, 114]), .lit (.string [65, 114])], .agg [.lit (.string [99, 111, 110, 116]), .lit (.string [65, 114])], .agg [.lit (.string [101, 120, 99]), .lit (.string [68, 114])], .agg [.lit (.string [109, 97, 114, 107]), .lit (.string [78, 107, 32, 77, 115])], .agg [.lit (.string [103, 101, 116]), .lit (.string [68, 114])], .agg [.lit (.string [112, 117, 116]), .lit (.string [65, 114])], .agg [.lit (.string [100, 101, 102, 101, 114]), .lit (.string [])], .agg [.lit (.string [97, 108, 108, 111, 119]), .lit (.string [])], .agg [.lit (.string [99, 108, 111, 99, 107]), .lit (.string [68, 114])], .agg [.lit (.string [99, 111, 117, 110, 116]), .lit (.string [68, 114, 32, 78, 101, 32, 77, 113])], .agg [.lit (.string [115, 116, 97, 114, 116]), .lit (.string [78, 115])], .agg [.lit (.string [110, 101, 118, 101, 114]), .lit (.string [78, 115])], .agg [.lit (.string [97, 119, 97, 105, 116]), .lit (.string [65, 114, 32, 78, 115])], .agg [.lit (.string [100, 101, 108, 97, 121]), .lit (.string [65, 114])], .agg [.lit (.string [117, 110, 116, 105, 108]), .lit (.string [65, 114])], .agg [.lit (.string [99, 97, 108, 108]), .lit (.string [68, 114, 32, 65, 112, 32, 66, 101, 32, 78, 111, 32, 77, 109])], .agg [.lit (.string [115, 101, 108]), .lit (.string [78, 106])], .agg [.lit (.string [100, 111, 110, 101]), .lit (.string [78, 98])], .agg [.lit (.string [114, 101, 113]), .lit (.string [65, 112, 32, 66, 101, 32, 78, 98, 32, 84, 115])], .agg [.lit (.string [108, 111, 99, 107]), .lit (.string [78, 112])], .agg [.lit (.string [112, 101, 110, 116]), .lit (.string [68, 114, 32, 65, 114, 32, 66, 109, 32, 78, 112, 32, 77, 101])], .agg [.lit (.string [117, 110, 108, 111, 99, 107]), .lit (.string [78, 112])], .agg [.lit (.string [97, 98, 111, 114, 116]), .lit (.string [78, 115])], .agg [.lit (.string [101, 110, 100]), .lit (.string [])]]

/-- 'ceilinglaw23.TextMay': WHATEVER THE INPUT: true; the input reads as it did. -/
def textMaySpec : ChangeSpec := { name := "textMay", fn := fun _ => fun
  | [d] => { results := [.lit (.bool true)], args := [d] }
  | _ => none }
def textMayRow : OpenClaim := { program := "ytejcfgjpdocaoaagreatdoor", sum := "e309f1bf34fddb1dedd59a20c9b66c2fb5bff7b2b956c896a175181986f456d8", func := "ceiling/ceilinglaw23.TextMay", spec := "textMay", unfollowed := true, recurses := true, named := ["ceiling/insn.rows", "strings.asciiSpace", "unicode.White_Space"], loops := true, plainKeys := false, apart := false, laid := [("unicode.White_Space", laid_unicode_White_Space), ("strings.asciiSpace", laid_strings_asciiSpace), ("ceiling/insn.rows", laid_ceiling_insn_rows)] }
def TextMaySaid : Prop := textMayRow.holds Tryz.pinned (OpenSpec.ofChange textMaySpec)

/-- ITS FALSE NEIGHBOUR: 'it returns false'. Refute it at one input. -/
def textMayWrong : ChangeSpec := { name := "textMay", fn := fun _ => fun
  | [d] => { results := [.lit (.bool false)], args := [d] }
  | _ => none }
def TextMayWrongFalsely : Prop := textMayRow.holds Tryz.pinned (OpenSpec.ofChange textMayWrong)

/-- 'ceilinglaw23.TextAt': WHATEVER THE INPUT: true; the input reads as it did. -/
def textAtSpec : ChangeSpec := { name := "textAt", fn := fun _ => fun
  | [d1, d2, d3] => { results := [.lit (.bool true)], args := [d1, d2, d3] }
  | _ => none }
def textAtRow : OpenClaim := { program := "ytejcfgjpdocaoaagreatdoor", sum := "e309f1bf34fddb1dedd59a20c9b66c2fb5bff7b2b956c896a175181986f456d8", func := "ceiling/ceilinglaw23.TextAt", spec := "textAt", unfollowed := true, recurses := true, named := ["ceiling/insn.rows", "strings.asciiSpace", "unicode.White_Space"], loops := true, plainKeys := false, apart := false, laid := [("unicode.White_Space", laid_unicode_White_Space), ("strings.asciiSpace", laid_strings_asciiSpace), ("ceiling/insn.rows", laid_ceiling_insn_rows)] }
def TextAtSaid : Prop := textAtRow.holds Tryz.pinned (OpenSpec.ofChange textAtSpec)

/-- ITS FALSE NEIGHBOUR: 'it returns false'. Refute it at one input. -/
def textAtWrong : ChangeSpec := { name := "textAt", fn := fun _ => fun
  | [d1, d2, d3] => { results := [.lit (.bool false)], args := [d1, d2, d3] }
  | _ => none }
def TextAtWrongFalsely : Prop := textAtRow.holds Tryz.pinned (OpenSpec.ofChange textAtWrong)

/-- 'ceilinglaw23.TextGet': WHATEVER THE INPUT: true; the input reads as it did. -/
def textGetSpec : ChangeSpec := { name := "textGet", fn := fun _ => fun
  | [d] => { results := [.lit (.bool true)], args := [d] }
  | _ => none }
def textGetRow : OpenClaim := { program := "ytejcfgjpdocaoaagreatdoor", sum := "e309f1bf34fddb1dedd59a20c9b66c2fb5bff7b2b956c896a175181986f456d8", func := "ceiling/ceilinglaw23.TextGet", spec := "textGet", unfollowed := true, recurses := true, named := ["ceiling/insn.rows", "strings.asciiSpace", "unicode.White_Space"], plainKeys := false, apart := false, laid := [("unicode.White_Space", laid_unicode_White_Space), ("strings.asciiSpace", laid_strings_asciiSpace), ("ceiling/insn.rows", laid_ceiling_insn_rows)] }
def TextGetSaid : Prop := textGetRow.holds Tryz.pinned (OpenSpec.ofChange textGetSpec)

/-- ITS FALSE NEIGHBOUR: 'it returns false'. Refute it at one input. -/
def textGetWrong : ChangeSpec := { name := "textGet", fn := fun _ => fun
  | [d] => { results := [.lit (.bool false)], args := [d] }
  | _ => none }
def TextGetWrongFalsely : Prop := textGetRow.holds Tryz.pinned (OpenSpec.ofChange textGetWrong)

/-- 'ceilinglaw23.TextBack': WHATEVER THE INPUT: true; the input reads as it did. -/
def textBackSpec : ChangeSpec := { name := "textBack", fn := fun _ => fun
  | [d1, d2] => { results := [.lit (.bool true)], args := [d1, d2] }
  | _ => none }
def textBackRow : OpenClaim := { program := "ytejcfgjpdocaoaagreatdoor", sum := "e309f1bf34fddb1dedd59a20c9b66c2fb5bff7b2b956c896a175181986f456d8", func := "ceiling/ceilinglaw23.TextBack", spec := "textBack", unfollowed := true, recurses := true, named := ["ceiling/insn.rows", "strings.asciiSpace", "unicode.White_Space"], loops := true, plainKeys := false, apart := false, laid := [("unicode.White_Space", laid_unicode_White_Space), ("strings.asciiSpace", laid_strings_asciiSpace), ("ceiling/insn.rows", laid_ceiling_insn_rows)] }
def TextBackSaid : Prop := textBackRow.holds Tryz.pinned (OpenSpec.ofChange textBackSpec)

/-- ITS FALSE NEIGHBOUR: 'it returns false'. Refute it at one input. -/
def textBackWrong : ChangeSpec := { name := "textBack", fn := fun _ => fun
  | [d1, d2] => { results := [.lit (.bool false)], args := [d1, d2] }
  | _ => none }
def TextBackWrongFalsely : Prop := textBackRow.holds Tryz.pinned (OpenSpec.ofChange textBackWrong)

/-- 'ceilinglaw23.TextTwice': WHATEVER THE INPUT: true; the input reads as it did. -/
def textTwiceSpec : ChangeSpec := { name := "textTwice", fn := fun _ => fun
  | [d1, d2, d3] => { results := [.lit (.bool true)], args := [d1, d2, d3] }
  | _ => none }
def textTwiceRow : OpenClaim := { program := "ytejcfgjpdocaoaagreatdoor", sum := "e309f1bf34fddb1dedd59a20c9b66c2fb5bff7b2b956c896a175181986f456d8", func := "ceiling/ceilinglaw23.TextTwice", spec := "textTwice", unfollowed := true, recurses := true, named := ["ceiling/insn.rows", "strings.asciiSpace", "unicode.White_Space"], loops := true, plainKeys := false, apart := false, laid := [("unicode.White_Space", laid_unicode_White_Space), ("strings.asciiSpace", laid_strings_asciiSpace), ("ceiling/insn.rows", laid_ceiling_insn_rows)] }
def TextTwiceSaid : Prop := textTwiceRow.holds Tryz.pinned (OpenSpec.ofChange textTwiceSpec)

/-- ITS FALSE NEIGHBOUR: 'it returns false'. Refute it at one input. -/
def textTwiceWrong : ChangeSpec := { name := "textTwice", fn := fun _ => fun
  | [d1, d2, d3] => { results := [.lit (.bool false)], args := [d1, d2, d3] }
  | _ => none }
def TextTwiceWrongFalsely : Prop := textTwiceRow.holds Tryz.pinned (OpenSpec.ofChange textTwiceWrong)

/- THE SECOND FORM. 'bulk': how many values and letters a reading holds, each counted each time it is reached (what is shared counts as often as it is met; a slice's spare places count too). A statement '..UptoSaid' is the law's where the arguments, and the package variables that the reading takes, are together of bulk at most 1048576: NARROWER than '..Said'. Prove '..Said' where nothing that the law and all that it calls make is longer than what came in: it says more and counts as full. Else prove '..UptoSaid'. A law counts once. -/
mutual
def uptoBulk {H : Type} : DataW H → Nat
  | .lit (.string bytes) => bytes.length + 1
  | .lit _ => 1
  | .nil => 1
  | .ptr d => uptoBulk d + 1
  | .slice elems spare => uptoBulkAll elems + uptoBulkAll spare + 1
  | .agg parts => uptoBulkAll parts + 1
  | .iface _ d => uptoBulk d + 1
  | .map entries => uptoBulkEntries entries + 1
  | .held _ => 1
def uptoBulkAll {H : Type} : List (DataW H) → Nat
  | [] => 0
  | d :: r => uptoBulk d + uptoBulkAll r
def uptoBulkEntries {H : Type} : List (Lit × DataW H) → Nat
  | [] => 0
  | x :: r => uptoBulkEntry x + uptoBulkEntries r
def uptoBulkEntry {H : Type} : Lit × DataW H → Nat
  | (.string bytes, d) => bytes.length + uptoBulk d + 1
  | (_, d) => uptoBulk d + 1
 end
def uptoSmall : (H : Type) → List (DataW H) → Bool := fun _ ds => decide (uptoBulkAll ds ≤ 1048576)
def OpenSpec.upto (s : _root_.Go.ChangeSpec) : _root_.Go.OpenSpec := { _root_.Go.OpenSpec.ofChange s with cond := some uptoSmall }

/-- 'ceilinglaw23.TextMay', WHERE WHAT IT READS IS OF BULK AT MOST 1048576: true; the input reads as it did. -/
def textMayUptoRow : OpenClaim := { program := "ytejcfgjpdocaoaagreatdoor", sum := "e309f1bf34fddb1dedd59a20c9b66c2fb5bff7b2b956c896a175181986f456d8", func := "ceiling/ceilinglaw23.TextMay", spec := "textMay", unfollowed := true, recurses := true, named := ["ceiling/insn.rows", "strings.asciiSpace", "unicode.White_Space"], loops := true, plainKeys := false, apart := false, laid := [("unicode.White_Space", laid_unicode_White_Space), ("strings.asciiSpace", laid_strings_asciiSpace), ("ceiling/insn.rows", laid_ceiling_insn_rows)], narrowed := true }
def TextMayUptoSaid : Prop := textMayUptoRow.holds Tryz.pinned (OpenSpec.upto textMaySpec)

/-- 'ceilinglaw23.TextAt', WHERE WHAT IT READS IS OF BULK AT MOST 1048576: true; the input reads as it did. -/
def textAtUptoRow : OpenClaim := { program := "ytejcfgjpdocaoaagreatdoor", sum := "e309f1bf34fddb1dedd59a20c9b66c2fb5bff7b2b956c896a175181986f456d8", func := "ceiling/ceilinglaw23.TextAt", spec := "textAt", unfollowed := true, recurses := true, named := ["ceiling/insn.rows", "strings.asciiSpace", "unicode.White_Space"], loops := true, plainKeys := false, apart := false, laid := [("unicode.White_Space", laid_unicode_White_Space), ("strings.asciiSpace", laid_strings_asciiSpace), ("ceiling/insn.rows", laid_ceiling_insn_rows)], narrowed := true }
def TextAtUptoSaid : Prop := textAtUptoRow.holds Tryz.pinned (OpenSpec.upto textAtSpec)

/-- 'ceilinglaw23.TextGet', WHERE WHAT IT READS IS OF BULK AT MOST 1048576: true; the input reads as it did. -/
def textGetUptoRow : OpenClaim := { program := "ytejcfgjpdocaoaagreatdoor", sum := "e309f1bf34fddb1dedd59a20c9b66c2fb5bff7b2b956c896a175181986f456d8", func := "ceiling/ceilinglaw23.TextGet", spec := "textGet", unfollowed := true, recurses := true, named := ["ceiling/insn.rows", "strings.asciiSpace", "unicode.White_Space"], plainKeys := false, apart := false, laid := [("unicode.White_Space", laid_unicode_White_Space), ("strings.asciiSpace", laid_strings_asciiSpace), ("ceiling/insn.rows", laid_ceiling_insn_rows)], narrowed := true }
def TextGetUptoSaid : Prop := textGetUptoRow.holds Tryz.pinned (OpenSpec.upto textGetSpec)

/-- 'ceilinglaw23.TextBack', WHERE WHAT IT READS IS OF BULK AT MOST 1048576: true; the input reads as it did. -/
def textBackUptoRow : OpenClaim := { program := "ytejcfgjpdocaoaagreatdoor", sum := "e309f1bf34fddb1dedd59a20c9b66c2fb5bff7b2b956c896a175181986f456d8", func := "ceiling/ceilinglaw23.TextBack", spec := "textBack", unfollowed := true, recurses := true, named := ["ceiling/insn.rows", "strings.asciiSpace", "unicode.White_Space"], loops := true, plainKeys := false, apart := false, laid := [("unicode.White_Space", laid_unicode_White_Space), ("strings.asciiSpace", laid_strings_asciiSpace), ("ceiling/insn.rows", laid_ceiling_insn_rows)], narrowed := true }
def TextBackUptoSaid : Prop := textBackUptoRow.holds Tryz.pinned (OpenSpec.upto textBackSpec)

/-- 'ceilinglaw23.TextTwice', WHERE WHAT IT READS IS OF BULK AT MOST 1048576: true; the input reads as it did. -/
def textTwiceUptoRow : OpenClaim := { program := "ytejcfgjpdocaoaagreatdoor", sum := "e309f1bf34fddb1dedd59a20c9b66c2fb5bff7b2b956c896a175181986f456d8", func := "ceiling/ceilinglaw23.TextTwice", spec := "textTwice", unfollowed := true, recurses := true, named := ["ceiling/insn.rows", "strings.asciiSpace", "unicode.White_Space"], loops := true, plainKeys := false, apart := false, laid := [("unicode.White_Space", laid_unicode_White_Space), ("strings.asciiSpace", laid_strings_asciiSpace), ("ceiling/insn.rows", laid_ceiling_insn_rows)], narrowed := true }
def TextTwiceUptoSaid : Prop := textTwiceUptoRow.holds Tryz.pinned (OpenSpec.upto textTwiceSpec)

end Rows
end Go.Proofs.YtejcfgjpdocaoaaGreatDoor
