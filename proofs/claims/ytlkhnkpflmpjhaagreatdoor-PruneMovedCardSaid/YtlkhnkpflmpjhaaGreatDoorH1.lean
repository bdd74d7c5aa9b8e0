/- Part of the proof. -/
import Derived.Test.YtlkhnkpflmpjhaaGreatDoorHa
set_option linter.unusedVariables false
set_option linter.unusedSimpArgs false
set_option linter.unusedSectionVars false
set_option linter.unnecessarySimpa false
set_option maxRecDepth 1000000
set_option maxHeartbeats 4000000
namespace Go.Proofs.YtlkhnkpflmpjhaaGreatDoor
open Go Go.Sk
theorem hm1:HRn [] mm1=HRr mm1:=by kernel_rfl
theorem hm5:HRn [mm1,mm2,mm3,mm4] mm5=HRr mm5:=by kernel_rfl
theorem hm9:HRn [] mm9=HRr mm9:=by kernel_rfl
theorem hm13:HRn [] pY=HRr pY:=by kernel_rfl
theorem hm17:HRn [] pU=HRr pU:=by kernel_rfl
theorem hm21:HRn [pS,pR] pQ=HRr pQ:=by kernel_rfl
theorem hm25:HRn [pO,pN] pM=HRr pM:=by kernel_rfl
theorem hm29:HRn [pK,pJ] pI=HRr pI:=by kernel_rfl
theorem hm33:HRn [pG,pF] pE=HRr pE:=by kernel_rfl
end Go.Proofs.YtlkhnkpflmpjhaaGreatDoor
