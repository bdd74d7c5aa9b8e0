/- Part of the proof. -/
import Derived.Test.YtiigiagchaibdaaGreatDoorDa
set_option linter.unusedVariables false
set_option linter.unusedSimpArgs false
set_option linter.unusedSectionVars false
set_option linter.unnecessarySimpa false
set_option maxRecDepth 100000
namespace Go.Proofs.YtiigiagchaibdaaGreatDoor
open Go Go.Sk
open Go.ChangeShapes Go.WideShapes Go.ChangeAt Go.RowKit
theorem vT(os:Os)(args:Array Value):(DataW.laidRun Tryz.prog (DW os args).memory 8 (mN.map (·.1))).map (λx=>decide x.2.Nodup&&laidRowsB Tryz.prog (DW os args).memory x.2)=some true:=by kernel_rfl
end Go.Proofs.YtiigiagchaibdaaGreatDoor
