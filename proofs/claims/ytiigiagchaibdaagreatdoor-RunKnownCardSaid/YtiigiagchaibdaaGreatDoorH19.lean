/- Part of the proof. -/
import Derived.Test.YtiigiagchaibdaaGreatDoorHa
set_option linter.unusedVariables false
set_option linter.unusedSimpArgs false
set_option linter.unusedSectionVars false
set_option linter.unnecessarySimpa false
set_option maxRecDepth 1000000
set_option maxHeartbeats 4000000
namespace Go.Proofs.YtiigiagchaibdaaGreatDoor
open Go Go.Sk
theorem hm19:HR1 [] th=HRr th:=by kernel_rfl
theorem hm41:HR1 [] sK=HRr sK:=by kernel_rfl
end Go.Proofs.YtiigiagchaibdaaGreatDoor
