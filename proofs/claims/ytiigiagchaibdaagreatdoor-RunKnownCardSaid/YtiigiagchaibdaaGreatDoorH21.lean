/- Part of the proof. -/
import Derived.Test.YtiigiagchaibdaaGreatDoorHa
set_option linter.unusedVariables false
set_option linter.unusedSimpArgs false
set_option linter.unusedSectionVars false
set_option linter.unnecessarySimpa false
set_option maxRecDepth 1000000
set_option maxHeartbeats 4000000
namespace Go.Proofs.YtiigiagchaibdaaGreatDoor
open Go Go.Sk
theorem hm21:HR1 [] tf=HRr tf:=by kernel_rfl
theorem hm43:HR1 [] sI=HRr sI:=by kernel_rfl
theorem hm37:HR1 [tl,tk,tj,ti,th,tg,tf,te,td,ta,s8,s7,s6,s5,sZ,sY,sX,sW,sV,sU,sT,sR] sQ=HRr sQ:=by kernel_rfl
end Go.Proofs.YtiigiagchaibdaaGreatDoor
