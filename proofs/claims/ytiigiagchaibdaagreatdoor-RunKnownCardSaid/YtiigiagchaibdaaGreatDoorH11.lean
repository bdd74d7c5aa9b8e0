/- Part of the proof. -/
import Derived.Test.YtiigiagchaibdaaGreatDoorHa
set_option linter.unusedVariables false
set_option linter.unusedSimpArgs false
set_option linter.unusedSectionVars false
set_option linter.unnecessarySimpa false
set_option maxRecDepth 1000000
set_option maxHeartbeats 4000000
namespace Go.Proofs.YtiigiagchaibdaaGreatDoor
open Go Go.Sk
theorem hm11:HR1 [] tr=HRr tr:=by kernel_rfl
theorem hm33:HR1 [] sV=HRr sV:=by kernel_rfl
theorem hm55:HR1 [] sv=HRr sv:=by kernel_rfl
end Go.Proofs.YtiigiagchaibdaaGreatDoor
