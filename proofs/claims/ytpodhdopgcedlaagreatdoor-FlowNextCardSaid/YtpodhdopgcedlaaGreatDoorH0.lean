/- Part of the proof. -/
import Derived.Test.YtpodhdopgcedlaaGreatDoorHa
set_option linter.unusedVariables false
set_option linter.unusedSimpArgs false
set_option linter.unusedSectionVars false
set_option linter.unnecessarySimpa false
set_option maxRecDepth 1000000
set_option maxHeartbeats 4000000
namespace Go.Proofs.YtpodhdopgcedlaaGreatDoor
open Go Go.Sk
theorem hm0:HRn [] mm0=HRr mm0:=by kernel_rfl
theorem hm2:HRn [] mm2=HRr mm2:=by kernel_rfl
theorem hm4:HRn [] mm4=HRr mm4:=by kernel_rfl
theorem hm6:HRn [mm1,mm3,mm5] mm6=HRr mm6:=by kernel_rfl
theorem hm8:HRn [] mm8=HRr mm8:=by kernel_rfl
theorem hm10:HRn [] wW=HRr wW:=by kernel_rfl
theorem hm12:HRn [] wU=HRr wU:=by kernel_rfl
theorem hm14:HRn [] wS=HRr wS:=by kernel_rfl
theorem hm16:HRn [] wQ=HRr wQ:=by kernel_rfl
theorem hm18:HRn [] wO=HRr wO:=by kernel_rfl
theorem hm20:HRn [] wM=HRr wM:=by kernel_rfl
theorem hm22:HRn [] wK=HRr wK:=by kernel_rfl
theorem hm24:HRn [] wI=HRr wI:=by kernel_rfl
theorem hm26:HRn [] wG=HRr wG:=by kernel_rfl
theorem hm28:HRn [wE] wD=HRr wD:=by kernel_rfl
theorem hm30:HRn [wH,wD,wC] wB=HRr wB:=by kernel_rfl
end Go.Proofs.YtpodhdopgcedlaaGreatDoor
