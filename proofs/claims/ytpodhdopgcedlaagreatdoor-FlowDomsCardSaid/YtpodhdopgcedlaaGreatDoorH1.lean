/- Part of the proof. -/
import Derived.Test.YtpodhdopgcedlaaGreatDoorHa
set_option linter.unusedVariables false
set_option linter.unusedSimpArgs false
set_option linter.unusedSectionVars false
set_option linter.unnecessarySimpa false
set_option maxRecDepth 1000000
set_option maxHeartbeats 4000000
namespace Go.Proofs.YtpodhdopgcedlaaGreatDoor
open Go Go.Sk
theorem hm1:HRn [mm0] mm1=HRr mm1:=by kernel_rfl
theorem hm3:HRn [mm2] mm3=HRr mm3:=by kernel_rfl
theorem hm5:HRn [mm4] mm5=HRr mm5:=by kernel_rfl
theorem hm7:HRn [] mm7=HRr mm7:=by kernel_rfl
theorem hm9:HRn [] mm9=HRr mm9:=by kernel_rfl
theorem hm11:HRn [] vh=HRr vh:=by kernel_rfl
theorem hm13:HRn [] ve=HRr ve:=by kernel_rfl
theorem hm15:HRn [] vc=HRr vc:=by kernel_rfl
theorem hm17:HRn [] va=HRr va:=by kernel_rfl
theorem hm19:HRn [] u7=HRr u7:=by kernel_rfl
theorem hm21:HRn [] u5=HRr u5:=by kernel_rfl
theorem hm23:HRn [] u3=HRr u3:=by kernel_rfl
theorem hm25:HRn [mm6,mm7,mm8,mm9,vi,vh,vg,ve,vd,vc,vb,va,u9,u7,u6,u5,u4,u3,u0] uZ=HRr uZ:=by kernel_rfl
theorem hm27:HRn [uY] uX=HRr uX:=by kernel_rfl
theorem hm29:HRn [] uV=HRr uV:=by kernel_rfl
end Go.Proofs.YtpodhdopgcedlaaGreatDoor
