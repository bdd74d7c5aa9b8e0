/- Part of the proof. -/
import Derived.Test.YtpodhdopgcedlaaGreatDoorHa
set_option linter.unusedVariables false
set_option linter.unusedSimpArgs false
set_option linter.unusedSectionVars false
set_option linter.unnecessarySimpa false
set_option maxRecDepth 1000000
set_option maxHeartbeats 4000000
namespace Go.Proofs.YtpodhdopgcedlaaGreatDoor
open Go Go.Sk
theorem hm1:HRn [mm0] mm1=HRr mm1:=by kernel_rfl
theorem hm3:HRn [mm2] mm3=HRr mm3:=by kernel_rfl
theorem hm5:HRn [mm4] mm5=HRr mm5:=by kernel_rfl
theorem hm7:HRn [] mm7=HRr mm7:=by kernel_rfl
theorem hm9:HRn [] mm9=HRr mm9:=by kernel_rfl
theorem hm11:HRn [] w8=HRr w8:=by kernel_rfl
theorem hm13:HRn [] w6=HRr w6:=by kernel_rfl
theorem hm15:HRn [] w3=HRr w3:=by kernel_rfl
theorem hm17:HRn [] wY=HRr wY:=by kernel_rfl
theorem hm19:HRn [] wW=HRr wW:=by kernel_rfl
theorem hm21:HRn [] wU=HRr wU:=by kernel_rfl
theorem hm23:HRn [] wS=HRr wS:=by kernel_rfl
theorem hm25:HRn [mm6,mm7,mm8,mm9,w9,w8,w7,w6,w5,w3,wZ,wY,wX,wW,wV,wU,wT,wS,wR] wQ=HRr wQ:=by kernel_rfl
theorem hm27:HRn [wP] wO=HRr wO:=by kernel_rfl
theorem hm29:HRn [] wM=HRr wM:=by kernel_rfl
end Go.Proofs.YtpodhdopgcedlaaGreatDoor
