/- Part of the proof. -/
import Derived.Test.YtiigiagchaibdaaGreatDoorDa
set_option linter.unusedVariables false
set_option linter.unusedSimpArgs false
set_option linter.unusedSectionVars false
set_option linter.unnecessarySimpa false
set_option maxRecDepth 100000
namespace Go.Proofs.YtiigiagchaibdaaGreatDoor
open Go Go.Sk
open Go.ChangeShapes Go.WideShapes Go.ChangeAt Go.RowKit
theorem vU(os:Os)(args:Array Value):(DataW.laidRun Tryz.prog (DW os args).memory 8 (mN.map (·.1))).map (·.1)=some mN:=by kernel_rfl
end Go.Proofs.YtiigiagchaibdaaGreatDoor
