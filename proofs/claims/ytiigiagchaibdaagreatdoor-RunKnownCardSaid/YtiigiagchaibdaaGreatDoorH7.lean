/- Part of the proof. -/
import Derived.Test.YtiigiagchaibdaaGreatDoorHa
set_option linter.unusedVariables false
set_option linter.unusedSimpArgs false
set_option linter.unusedSectionVars false
set_option linter.unnecessarySimpa false
set_option maxRecDepth 1000000
set_option maxHeartbeats 4000000
namespace Go.Proofs.YtiigiagchaibdaaGreatDoor
open Go Go.Sk
theorem hm7:HR1 [] mm7=HRr mm7:=by kernel_rfl
theorem hm29:HR1 [] sZ=HRr sZ:=by kernel_rfl
theorem hm51:HR1 [] sA=HRr sA:=by kernel_rfl
theorem nm7:NM 56 1=true:=by kernel_rfl
end Go.Proofs.YtiigiagchaibdaaGreatDoor
