/- Part of the proof. -/
import Derived.Test.YtiigiagchaibdaaGreatDoorHa
set_option linter.unusedVariables false
set_option linter.unusedSimpArgs false
set_option linter.unusedSectionVars false
set_option linter.unnecessarySimpa false
set_option maxRecDepth 1000000
set_option maxHeartbeats 4000000
namespace Go.Proofs.YtiigiagchaibdaaGreatDoor
open Go Go.Sk
theorem hm17:HR1 [] tj=HRr tj:=by kernel_rfl
theorem hm39:HR1 [] sO=HRr sO:=by kernel_rfl
theorem hm59:HR1 [tp,sP,sO,sL,sK,sJ,sI,sH,sG,sF,sE,sD,sC,sB,sA,sy,sx,sw,sv,su,ss,sq] so=HRr so:=by kernel_rfl
end Go.Proofs.YtiigiagchaibdaaGreatDoor
