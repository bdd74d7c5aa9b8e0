/- Part of the proof. -/
import Derived.Test.YtiigiagchaibdaaGreatDoorHa
set_option linter.unusedVariables false
set_option linter.unusedSimpArgs false
set_option linter.unusedSectionVars false
set_option linter.unnecessarySimpa false
set_option maxRecDepth 1000000
set_option maxHeartbeats 4000000
namespace Go.Proofs.YtiigiagchaibdaaGreatDoor
open Go Go.Sk
theorem hm12:HR1 [] tq=HRr tq:=by kernel_rfl
theorem hm34:HR1 [] sU=HRr sU:=by kernel_rfl
theorem hm56:HR1 [] su=HRr su:=by kernel_rfl
end Go.Proofs.YtiigiagchaibdaaGreatDoor
