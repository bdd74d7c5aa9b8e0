/- Part of the proof. -/
import Derived.Test.YtiigiagchaibdaaGreatDoorHa
set_option linter.unusedVariables false
set_option linter.unusedSimpArgs false
set_option linter.unusedSectionVars false
set_option linter.unnecessarySimpa false
set_option maxRecDepth 1000000
set_option maxHeartbeats 4000000
namespace Go.Proofs.YtiigiagchaibdaaGreatDoor
open Go Go.Sk
theorem hm1:HR0 [] mm1=HRr mm1:=by kernel_rfl
theorem hm23:HR1 [] td=HRr td:=by kernel_rfl
theorem hm45:HR1 [] sG=HRr sG:=by kernel_rfl
theorem nm1:NM 8 8=true:=by kernel_rfl
end Go.Proofs.YtiigiagchaibdaaGreatDoor
