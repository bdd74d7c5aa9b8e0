/- Part of the proof. -/
import Derived.Test.YtiigiagchaibdaaGreatDoorHa
set_option linter.unusedVariables false
set_option linter.unusedSimpArgs false
set_option linter.unusedSectionVars false
set_option linter.unnecessarySimpa false
set_option maxRecDepth 1000000
set_option maxHeartbeats 4000000
namespace Go.Proofs.YtiigiagchaibdaaGreatDoor
open Go Go.Sk
theorem hm5:HR1 [] mm5=HRr mm5:=by kernel_rfl
theorem hm27:HR1 [] s6=HRr s6:=by kernel_rfl
theorem hm49:HR1 [] sC=HRr sC:=by kernel_rfl
theorem nm5:NM 40 8=true:=by kernel_rfl
end Go.Proofs.YtiigiagchaibdaaGreatDoor
