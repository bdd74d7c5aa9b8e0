/- Part of the proof. -/
import Derived.Test.YtpodhdopgcedlaaGreatDoorHa
set_option linter.unusedVariables false
set_option linter.unusedSimpArgs false
set_option linter.unusedSectionVars false
set_option linter.unnecessarySimpa false
set_option maxRecDepth 1000000
set_option maxHeartbeats 4000000
namespace Go.Proofs.YtpodhdopgcedlaaGreatDoor
open Go Go.Sk
theorem hm1:HRn [mm0] mm1=HRr mm1:=by kernel_rfl
theorem hm3:HRn [mm2] mm3=HRr mm3:=by kernel_rfl
theorem hm5:HRn [mm4] mm5=HRr mm5:=by kernel_rfl
theorem hm7:HRn [] mm7=HRr mm7:=by kernel_rfl
theorem hm9:HRn [] mm9=HRr mm9:=by kernel_rfl
theorem hm11:HRn [] wV=HRr wV:=by kernel_rfl
theorem hm13:HRn [] wT=HRr wT:=by kernel_rfl
theorem hm15:HRn [] wR=HRr wR:=by kernel_rfl
theorem hm17:HRn [] wP=HRr wP:=by kernel_rfl
theorem hm19:HRn [] wN=HRr wN:=by kernel_rfl
theorem hm21:HRn [] wL=HRr wL:=by kernel_rfl
theorem hm23:HRn [] wJ=HRr wJ:=by kernel_rfl
theorem hm25:HRn [mm6,mm7,mm8,mm9,wW,wV,wU,wT,wS,wR,wQ,wP,wO,wN,wM,wL,wK,wJ,wI] wH=HRr wH:=by kernel_rfl
theorem hm27:HRn [wG] wE=HRr wE:=by kernel_rfl
theorem hm29:HRn [] wC=HRr wC:=by kernel_rfl
end Go.Proofs.YtpodhdopgcedlaaGreatDoor
