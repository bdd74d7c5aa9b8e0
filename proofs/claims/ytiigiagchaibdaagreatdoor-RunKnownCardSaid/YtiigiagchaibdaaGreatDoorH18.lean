/- Part of the proof. -/
import Derived.Test.YtiigiagchaibdaaGreatDoorHa
set_option linter.unusedVariables false
set_option linter.unusedSimpArgs false
set_option linter.unusedSectionVars false
set_option linter.unnecessarySimpa false
set_option maxRecDepth 1000000
set_option maxHeartbeats 4000000
namespace Go.Proofs.YtiigiagchaibdaaGreatDoor
open Go Go.Sk
theorem hm18:HR1 [] ti=HRr ti:=by kernel_rfl
theorem hm40:HR1 [] sL=HRr sL:=by kernel_rfl
end Go.Proofs.YtiigiagchaibdaaGreatDoor
