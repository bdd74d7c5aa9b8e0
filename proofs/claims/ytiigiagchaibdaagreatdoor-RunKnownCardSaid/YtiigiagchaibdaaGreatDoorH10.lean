/- Part of the proof. -/
import Derived.Test.YtiigiagchaibdaaGreatDoorHa
set_option linter.unusedVariables false
set_option linter.unusedSimpArgs false
set_option linter.unusedSectionVars false
set_option linter.unnecessarySimpa false
set_option maxRecDepth 1000000
set_option maxHeartbeats 4000000
namespace Go.Proofs.YtiigiagchaibdaaGreatDoor
open Go Go.Sk
theorem hm10:HR1 [] tt=HRr tt:=by kernel_rfl
theorem hm32:HR1 [] sW=HRr sW:=by kernel_rfl
theorem hm54:HR1 [] sw=HRr sw:=by kernel_rfl
end Go.Proofs.YtiigiagchaibdaaGreatDoor
