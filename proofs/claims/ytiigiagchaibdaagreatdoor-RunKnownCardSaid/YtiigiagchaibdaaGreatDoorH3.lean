/- Part of the proof. -/
import Derived.Test.YtiigiagchaibdaaGreatDoorHa
set_option linter.unusedVariables false
set_option linter.unusedSimpArgs false
set_option linter.unusedSectionVars false
set_option linter.unnecessarySimpa false
set_option maxRecDepth 1000000
set_option maxHeartbeats 4000000
namespace Go.Proofs.YtiigiagchaibdaaGreatDoor
open Go Go.Sk
theorem hm3:HR1 [] mm3=HRr mm3:=by kernel_rfl
theorem hm25:HR1 [] s8=HRr s8:=by kernel_rfl
theorem hm47:HR1 [] sE=HRr sE:=by kernel_rfl
theorem nm3:NM 24 8=true:=by kernel_rfl
end Go.Proofs.YtiigiagchaibdaaGreatDoor
