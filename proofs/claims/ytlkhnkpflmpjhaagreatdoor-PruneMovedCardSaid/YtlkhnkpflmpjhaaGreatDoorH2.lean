/- Part of the proof. -/
import Derived.Test.YtlkhnkpflmpjhaaGreatDoorHa
set_option linter.unusedVariables false
set_option linter.unusedSimpArgs false
set_option linter.unusedSectionVars false
set_option linter.unnecessarySimpa false
set_option maxRecDepth 1000000
set_option maxHeartbeats 4000000
namespace Go.Proofs.YtlkhnkpflmpjhaaGreatDoor
open Go Go.Sk
theorem hm2:HRn [] mm2=HRr mm2:=by kernel_rfl
theorem hm6:HRn [] mm6=HRr mm6:=by kernel_rfl
theorem hm10:HRn [mm6,mm7,mm8,mm9] p8=HRr p8:=by kernel_rfl
theorem hm14:HRn [pZ,pY] pX=HRr pX:=by kernel_rfl
theorem hm18:HRn [pV,pU] pT=HRr pT:=by kernel_rfl
theorem hm22:HRn [pT,pQ] pP=HRr pP:=by kernel_rfl
theorem hm26:HRn [] pL=HRr pL:=by kernel_rfl
theorem hm30:HRn [] pH=HRr pH:=by kernel_rfl
theorem hm34:HRn [mm0,pX,pW,pM,pI,pH,pE] pD=HRr pD:=by kernel_rfl
end Go.Proofs.YtlkhnkpflmpjhaaGreatDoor
