/- Part of the proof. -/
import Derived.Test.YtiigiagchaibdaaGreatDoorHa
set_option linter.unusedVariables false
set_option linter.unusedSimpArgs false
set_option linter.unusedSectionVars false
set_option linter.unnecessarySimpa false
set_option maxRecDepth 1000000
set_option maxHeartbeats 4000000
namespace Go.Proofs.YtiigiagchaibdaaGreatDoor
open Go Go.Sk
theorem hm16:HR1 [] tk=HRr tk:=by kernel_rfl
theorem hm38:HR1 [tn,sQ] sP=HRr sP:=by kernel_rfl
theorem hm60:HR1 [mm2,mm8,so] sn=HRr sn:=by kernel_rfl
end Go.Proofs.YtiigiagchaibdaaGreatDoor
