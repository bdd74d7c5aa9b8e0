/- Part of the proof. -/
import Derived.Test.YtiigiagchaibdaaGreatDoorHa
set_option linter.unusedVariables false
set_option linter.unusedSimpArgs false
set_option linter.unusedSectionVars false
set_option linter.unnecessarySimpa false
set_option maxRecDepth 1000000
set_option maxHeartbeats 4000000
namespace Go.Proofs.YtiigiagchaibdaaGreatDoor
open Go Go.Sk
theorem hm14:HR1 [] tn=HRr tn:=by kernel_rfl
theorem hm36:HR1 [] sR=HRr sR:=by kernel_rfl
theorem hm58:HR1 [] sq=HRr sq:=by kernel_rfl
end Go.Proofs.YtiigiagchaibdaaGreatDoor
