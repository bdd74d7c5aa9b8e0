/- Part of the proof. -/
import Derived.Test.YtiigiagchaibdaaGreatDoorHa
set_option linter.unusedVariables false
set_option linter.unusedSimpArgs false
set_option linter.unusedSectionVars false
set_option linter.unnecessarySimpa false
set_option maxRecDepth 1000000
set_option maxHeartbeats 4000000
namespace Go.Proofs.YtiigiagchaibdaaGreatDoor
open Go Go.Sk
theorem hm4:HR1 [] mm4=HRr mm4:=by kernel_rfl
theorem hm26:HR1 [] s7=HRr s7:=by kernel_rfl
theorem hm48:HR1 [] sD=HRr sD:=by kernel_rfl
theorem nm4:NM 32 8=true:=by kernel_rfl
end Go.Proofs.YtiigiagchaibdaaGreatDoor
