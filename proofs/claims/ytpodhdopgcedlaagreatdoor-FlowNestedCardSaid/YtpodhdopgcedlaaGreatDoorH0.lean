/- Part of the proof. -/
import Derived.Test.YtpodhdopgcedlaaGreatDoorHa
set_option linter.unusedVariables false
set_option linter.unusedSimpArgs false
set_option linter.unusedSectionVars false
set_option linter.unnecessarySimpa false
set_option maxRecDepth 1000000
set_option maxHeartbeats 4000000
namespace Go.Proofs.YtpodhdopgcedlaaGreatDoor
open Go Go.Sk
theorem hm0:HRn [] mm0=HRr mm0:=by kernel_rfl
theorem hm2:HRn [] mm2=HRr mm2:=by kernel_rfl
theorem hm4:HRn [] mm4=HRr mm4:=by kernel_rfl
theorem hm6:HRn [mm1,mm3,mm5] mm6=HRr mm6:=by kernel_rfl
theorem hm8:HRn [] mm8=HRr mm8:=by kernel_rfl
theorem hm10:HRn [] uB=HRr uB:=by kernel_rfl
theorem hm12:HRn [] uz=HRr uz:=by kernel_rfl
theorem hm14:HRn [] ux=HRr ux:=by kernel_rfl
theorem hm16:HRn [] uv=HRr uv:=by kernel_rfl
theorem hm18:HRn [] ur=HRr ur:=by kernel_rfl
theorem hm20:HRn [] uo=HRr uo:=by kernel_rfl
theorem hm22:HRn [] ul=HRr ul:=by kernel_rfl
theorem hm24:HRn [] uj=HRr uj:=by kernel_rfl
theorem hm26:HRn [] uh=HRr uh:=by kernel_rfl
theorem hm28:HRn [ug] uf=HRr uf:=by kernel_rfl
theorem hm30:HRn [ui,uf,ue] ud=HRr ud:=by kernel_rfl
end Go.Proofs.YtpodhdopgcedlaaGreatDoor
