/- Part of the proof. -/
import Derived.Test.YtiigiagchaibdaaGreatDoorHa
set_option linter.unusedVariables false
set_option linter.unusedSimpArgs false
set_option linter.unusedSectionVars false
set_option linter.unnecessarySimpa false
set_option maxRecDepth 1000000
set_option maxHeartbeats 4000000
namespace Go.Proofs.YtiigiagchaibdaaGreatDoor
open Go Go.Sk
theorem hm6:HR1 [] mm6=HRr mm6:=by kernel_rfl
theorem hm28:HR1 [] s5=HRr s5:=by kernel_rfl
theorem hm50:HR1 [] sB=HRr sB:=by kernel_rfl
theorem nm6:NM 48 8=true:=by kernel_rfl
end Go.Proofs.YtiigiagchaibdaaGreatDoor
