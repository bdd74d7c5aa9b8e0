/- Part of the proof. -/
import Derived.Test.YtiigiagchaibdaaGreatDoorHa
set_option linter.unusedVariables false
set_option linter.unusedSimpArgs false
set_option linter.unusedSectionVars false
set_option linter.unnecessarySimpa false
set_option maxRecDepth 1000000
set_option maxHeartbeats 4000000
namespace Go.Proofs.YtiigiagchaibdaaGreatDoor
open Go Go.Sk
theorem hm8:HR1 [mm3,mm4,mm5,mm6,mm7] mm8=HRr mm8:=by kernel_rfl
theorem hm30:HR1 [] sY=HRr sY:=by kernel_rfl
theorem hm52:HR1 [] sy=HRr sy:=by kernel_rfl
end Go.Proofs.YtiigiagchaibdaaGreatDoor
