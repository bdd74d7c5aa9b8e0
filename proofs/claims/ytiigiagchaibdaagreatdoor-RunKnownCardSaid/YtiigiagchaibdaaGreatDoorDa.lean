/- Part of the proof. -/
import Derived.Test.YtiigiagchaibdaaGreatDoorRows
import Derived.Test.YtiigiagchaibdaaGreatDoorX
set_option linter.unusedVariables false
set_option linter.unusedSimpArgs false
set_option linter.unusedSectionVars false
set_option linter.unnecessarySimpa false
set_option maxRecDepth 100000
namespace Go.Proofs.YtiigiagchaibdaaGreatDoor
open Go Go.Sk
open Go.ChangeShapes Go.WideShapes Go.ChangeAt Go.RowKit
theorem Tryz.own:ownKnob Tryz.prog.godebug=none:=by kernel_rfl
theorem kU:laidOutB Tryz.prog=true:=by kernel_rfl
abbrev jJ:List (String×DataW Unit):=[("unicode.White_Space",Rows.laid_unicode_White_Space),("strings.asciiSpace",Rows.laid_strings_asciiSpace),("ceiling/insn.rows",Rows.laid_ceiling_insn_rows)]
abbrev mN:List (String×DataW Unit):=jJ.filter λx=>x.2.handleName?.isNone
noncomputable def DW0(os:Os):World:={ World.holding Tryz.prog os ⟨#[], #[],[]⟩ with heap:=(varsWorld Tryz.prog 95 490 os λ_ _=>0).heap }
noncomputable def DW(os:Os)(args:Array Value):World:=(DW0 os).forCall (λ_ _=>0) ⟨#[],args,[]⟩
end Go.Proofs.YtiigiagchaibdaaGreatDoor
