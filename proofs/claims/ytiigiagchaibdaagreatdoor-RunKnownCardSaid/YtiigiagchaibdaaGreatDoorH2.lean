/- Part of the proof. -/
import Derived.Test.YtiigiagchaibdaaGreatDoorHa
set_option linter.unusedVariables false
set_option linter.unusedSimpArgs false
set_option linter.unusedSectionVars false
set_option linter.unnecessarySimpa false
set_option maxRecDepth 1000000
set_option maxHeartbeats 4000000
namespace Go.Proofs.YtiigiagchaibdaaGreatDoor
open Go Go.Sk
theorem hm2:HR1 [] mm2=HRr mm2:=by kernel_rfl
theorem hm24:HR1 [] ta=HRr ta:=by kernel_rfl
theorem hm46:HR1 [] sF=HRr sF:=by kernel_rfl
theorem nm2:NM 16 8=true:=by kernel_rfl
end Go.Proofs.YtiigiagchaibdaaGreatDoor
