/- Part of the proof. -/
import Derived.Test.YtiigiagchaibdaaGreatDoorDa
set_option linter.unusedVariables false
set_option linter.unusedSimpArgs false
set_option linter.unusedSectionVars false
set_option linter.unnecessarySimpa false
set_option maxRecDepth 100000
namespace Go.Proofs.YtiigiagchaibdaaGreatDoor
open Go Go.Sk
open Go.ChangeShapes Go.WideShapes Go.ChangeAt Go.RowKit
theorem tC(os:Os):Input.okWideB Tryz.prog (DW os #[]) 3 ⟨#[], #[],[]⟩=true:=by kernel_rfl
theorem tB{H:Type}{enc:TypeId×Value→H}(os:Os):Rows.runKnownSpec.preB enc Tryz.prog Tryz.f3 [] false (DW os #[]).memory #[] 8=true:=by kernel_rfl
theorem tA{H:Type}{enc:TypeId×Value→H}(os:Os):Rows.runKnownSpec.sizedB enc Tryz.prog Tryz.f3 false (DW os #[]).memory #[] 8=true:=by kernel_rfl
end Go.Proofs.YtiigiagchaibdaaGreatDoor
