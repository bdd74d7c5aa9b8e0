/- Part of the proof. -/
import Derived.SevenTiedAt
import Derived.Test.YtiigiagchaibdaaGreatDoorCards
import Derived.Test.YtiigiagchaibdaaGreatDoorTie
import Derived.KernelRfl
import Derived.Test.YtiigiagchaibdaaGreatDoorT
set_option linter.unusedVariables false
set_option linter.unusedSimpArgs false
set_option linter.unusedSectionVars false
set_option linter.unnecessarySimpa false
set_option maxRecDepth 100000
namespace Go.Proofs.YtiigiagchaibdaaGreatDoor
open Go
theorem qL:Tryz.prog.inPlace 3=Rows.runKnownRow.inPlace:=by kernel_rfl
end Go.Proofs.YtiigiagchaibdaaGreatDoor
