/- Part of the proof. -/
import Derived.Test.YtpodhdopgcedlaaGreatDoorHa
set_option linter.unusedVariables false
set_option linter.unusedSimpArgs false
set_option linter.unusedSectionVars false
set_option linter.unnecessarySimpa false
set_option maxRecDepth 1000000
set_option maxHeartbeats 4000000
namespace Go.Proofs.YtpodhdopgcedlaaGreatDoor
open Go Go.Sk
theorem hm0:HRn [] mm0=HRr mm0:=by kernel_rfl
theorem hm2:HRn [] mm2=HRr mm2:=by kernel_rfl
theorem hm4:HRn [] mm4=HRr mm4:=by kernel_rfl
theorem hm6:HRn [mm1,mm3,mm5] mm6=HRr mm6:=by kernel_rfl
theorem hm8:HRn [] mm8=HRr mm8:=by kernel_rfl
theorem hm10:HRn [] w9=HRr w9:=by kernel_rfl
theorem hm12:HRn [] w7=HRr w7:=by kernel_rfl
theorem hm14:HRn [] w5=HRr w5:=by kernel_rfl
theorem hm16:HRn [] wZ=HRr wZ:=by kernel_rfl
theorem hm18:HRn [] wX=HRr wX:=by kernel_rfl
theorem hm20:HRn [] wV=HRr wV:=by kernel_rfl
theorem hm22:HRn [] wT=HRr wT:=by kernel_rfl
theorem hm24:HRn [] wR=HRr wR:=by kernel_rfl
theorem hm26:HRn [] wP=HRr wP:=by kernel_rfl
theorem hm28:HRn [wO] wN=HRr wN:=by kernel_rfl
theorem hm30:HRn [wQ,wN,wM] wL=HRr wL:=by kernel_rfl
end Go.Proofs.YtpodhdopgcedlaaGreatDoor
