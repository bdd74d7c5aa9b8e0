/- Part of the proof. -/
import Derived.Test.YtiigiagchaibdaaGreatDoorJg
import Derived.Test.YtiigiagchaibdaaGreatDoorJ0
import Derived.Test.YtiigiagchaibdaaGreatDoorJ1
import Derived.Test.YtiigiagchaibdaaGreatDoorJ2
import Derived.Test.YtiigiagchaibdaaGreatDoorJ3
set_option linter.unusedVariables false
set_option linter.unusedSimpArgs false
set_option linter.unusedSectionVars false
set_option linter.unnecessarySimpa false
set_option maxRecDepth 100000
namespace Go.Proofs.YtiigiagchaibdaaGreatDoor
open Go
theorem tD:joinedFacts Tryz.pinned.checked.prog 3 Tryz.f3 Rows.runKnownSpec Rows.runKnownRow=true:=by
 unfold joinedFacts
 rw[show Tryz.pinned.checked.prog.inPlace 3=_ from qL,show Tryz.pinned.checked.prog.unfollowed 3=_ from qK,show Tryz.pinned.checked.prog.recurses 3=_ from qJ,show Tryz.pinned.checked.prog.varsNamed 3=_ from qI]
 kernel_rfl
end Go.Proofs.YtiigiagchaibdaaGreatDoor
