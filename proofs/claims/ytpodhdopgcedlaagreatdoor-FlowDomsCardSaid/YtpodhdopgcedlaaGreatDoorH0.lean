/- Part of the proof. -/
import Derived.Test.YtpodhdopgcedlaaGreatDoorHa
set_option linter.unusedVariables false
set_option linter.unusedSimpArgs false
set_option linter.unusedSectionVars false
set_option linter.unnecessarySimpa false
set_option maxRecDepth 1000000
set_option maxHeartbeats 4000000
namespace Go.Proofs.YtpodhdopgcedlaaGreatDoor
open Go Go.Sk
theorem hm0:HRn [] mm0=HRr mm0:=by kernel_rfl
theorem hm2:HRn [] mm2=HRr mm2:=by kernel_rfl
theorem hm4:HRn [] mm4=HRr mm4:=by kernel_rfl
theorem hm6:HRn [mm1,mm3,mm5] mm6=HRr mm6:=by kernel_rfl
theorem hm8:HRn [] mm8=HRr mm8:=by kernel_rfl
theorem hm10:HRn [] vi=HRr vi:=by kernel_rfl
theorem hm12:HRn [] vg=HRr vg:=by kernel_rfl
theorem hm14:HRn [] vd=HRr vd:=by kernel_rfl
theorem hm16:HRn [] vb=HRr vb:=by kernel_rfl
theorem hm18:HRn [] u9=HRr u9:=by kernel_rfl
theorem hm20:HRn [] u6=HRr u6:=by kernel_rfl
theorem hm22:HRn [] u4=HRr u4:=by kernel_rfl
theorem hm24:HRn [] u0=HRr u0:=by kernel_rfl
theorem hm26:HRn [] uY=HRr uY:=by kernel_rfl
theorem hm28:HRn [uX] uW=HRr uW:=by kernel_rfl
theorem hm30:HRn [uZ,uW,uV] uU=HRr uU:=by kernel_rfl
end Go.Proofs.YtpodhdopgcedlaaGreatDoor
