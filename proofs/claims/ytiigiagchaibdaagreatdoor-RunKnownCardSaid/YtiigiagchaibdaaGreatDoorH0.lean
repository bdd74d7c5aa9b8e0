/- Part of the proof. -/
import Derived.Test.YtiigiagchaibdaaGreatDoorHa
set_option linter.unusedVariables false
set_option linter.unusedSimpArgs false
set_option linter.unusedSectionVars false
set_option linter.unnecessarySimpa false
set_option maxRecDepth 1000000
set_option maxHeartbeats 4000000
namespace Go.Proofs.YtiigiagchaibdaaGreatDoor
open Go Go.Sk
theorem hm0:HR0 [] mm0=HRr mm0:=by kernel_rfl
theorem hm22:HR1 [] te=HRr te:=by kernel_rfl
theorem hm44:HR1 [] sH=HRr sH:=by kernel_rfl
theorem nm0:NM 0 8=true:=by kernel_rfl
end Go.Proofs.YtiigiagchaibdaaGreatDoor
