/- Part of the proof. -/
import Derived.Test.YtpodhdopgcedlaaGreatDoorHa
set_option linter.unusedVariables false
set_option linter.unusedSimpArgs false
set_option linter.unusedSectionVars false
set_option linter.unnecessarySimpa false
set_option maxRecDepth 1000000
set_option maxHeartbeats 4000000
namespace Go.Proofs.YtpodhdopgcedlaaGreatDoor
open Go Go.Sk
theorem hm1:HRn [mm0] mm1=HRr mm1:=by kernel_rfl
theorem hm3:HRn [mm2] mm3=HRr mm3:=by kernel_rfl
theorem hm5:HRn [mm4] mm5=HRr mm5:=by kernel_rfl
theorem hm7:HRn [] mm7=HRr mm7:=by kernel_rfl
theorem hm9:HRn [] mm9=HRr mm9:=by kernel_rfl
theorem hm11:HRn [] uA=HRr uA:=by kernel_rfl
theorem hm13:HRn [] uy=HRr uy:=by kernel_rfl
theorem hm15:HRn [] uw=HRr uw:=by kernel_rfl
theorem hm17:HRn [] ut=HRr ut:=by kernel_rfl
theorem hm19:HRn [] uq=HRr uq:=by kernel_rfl
theorem hm21:HRn [] um=HRr um:=by kernel_rfl
theorem hm23:HRn [] uk=HRr uk:=by kernel_rfl
theorem hm25:HRn [mm6,mm7,mm8,mm9,uB,uA,uz,uy,ux,uw,uv,ut,ur,uq,uo,um,ul,uk,uj] ui=HRr ui:=by kernel_rfl
theorem hm27:HRn [uh] ug=HRr ug:=by kernel_rfl
theorem hm29:HRn [] ue=HRr ue:=by kernel_rfl
end Go.Proofs.YtpodhdopgcedlaaGreatDoor
