/- Part of the proof. -/
import Derived.Test.YtlkhnkpflmpjhaaGreatDoorHa
set_option linter.unusedVariables false
set_option linter.unusedSimpArgs false
set_option linter.unusedSectionVars false
set_option linter.unnecessarySimpa false
set_option maxRecDepth 1000000
set_option maxHeartbeats 4000000
namespace Go.Proofs.YtlkhnkpflmpjhaaGreatDoor
open Go Go.Sk
theorem hm3:HRn [] mm3=HRr mm3:=by kernel_rfl
theorem hm7:HRn [] mm7=HRr mm7:=by kernel_rfl
theorem hm11:HRn [mm5,p8] p7=HRr p7:=by kernel_rfl
theorem hm15:HRn [] pW=HRr pW:=by kernel_rfl
theorem hm19:HRn [] pS=HRr pS:=by kernel_rfl
theorem hm23:HRn [pP] pO=HRr pO:=by kernel_rfl
theorem hm27:HRn [pL] pK=HRr pK:=by kernel_rfl
theorem hm31:HRn [] pG=HRr pG:=by kernel_rfl
end Go.Proofs.YtlkhnkpflmpjhaaGreatDoor
