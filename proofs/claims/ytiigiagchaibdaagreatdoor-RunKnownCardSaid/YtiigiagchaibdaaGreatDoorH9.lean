/- Part of the proof. -/
import Derived.Test.YtiigiagchaibdaaGreatDoorHa
set_option linter.unusedVariables false
set_option linter.unusedSimpArgs false
set_option linter.unusedSectionVars false
set_option linter.unnecessarySimpa false
set_option maxRecDepth 1000000
set_option maxHeartbeats 4000000
namespace Go.Proofs.YtiigiagchaibdaaGreatDoor
open Go Go.Sk
theorem hm9:HR1 [] mm9=HRr mm9:=by kernel_rfl
theorem hm31:HR1 [] sX=HRr sX:=by kernel_rfl
theorem hm53:HR1 [] sx=HRr sx:=by kernel_rfl
end Go.Proofs.YtiigiagchaibdaaGreatDoor
