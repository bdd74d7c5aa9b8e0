/- Part of the proof. -/
import Derived.Test.YtlkhnkpflmpjhaaGreatDoorHa
set_option linter.unusedVariables false
set_option linter.unusedSimpArgs false
set_option linter.unusedSectionVars false
set_option linter.unnecessarySimpa false
set_option maxRecDepth 1000000
set_option maxHeartbeats 4000000
namespace Go.Proofs.YtlkhnkpflmpjhaaGreatDoor
open Go Go.Sk
theorem hm0:HRn [] mm0=HRr mm0:=by kernel_rfl
theorem hm4:HRn [] mm4=HRr mm4:=by kernel_rfl
theorem hm8:HRn [] mm8=HRr mm8:=by kernel_rfl
theorem hm12:HRn [p7] pZ=HRr pZ:=by kernel_rfl
theorem hm16:HRn [] pV=HRr pV:=by kernel_rfl
theorem hm20:HRn [] pR=HRr pR:=by kernel_rfl
theorem hm24:HRn [] pN=HRr pN:=by kernel_rfl
theorem hm28:HRn [] pJ=HRr pJ:=by kernel_rfl
theorem hm32:HRn [] pF=HRr pF:=by kernel_rfl
end Go.Proofs.YtlkhnkpflmpjhaaGreatDoor
