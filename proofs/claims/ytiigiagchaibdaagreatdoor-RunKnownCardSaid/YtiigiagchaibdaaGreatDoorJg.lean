/- Part of the proof. -/
import Derived.SevenTiedAt
import Derived.Test.YtiigiagchaibdaaGreatDoorCards
import Derived.Test.YtiigiagchaibdaaGreatDoorTie
import Derived.KernelRfl
import Derived.Test.YtiigiagchaibdaaGreatDoorT
set_option linter.unusedVariables false
set_option linter.unusedSimpArgs false
set_option linter.unusedSectionVars false
set_option linter.unnecessarySimpa false
set_option maxRecDepth 100000
namespace Go.Proofs.YtiigiagchaibdaaGreatDoor
open Go
theorem jM{P:Program}(h:P.funcs.any Func.goes=false)(f:FuncId):P.goes f=false:=by
 unfold Program.goes
 rw[h,Bool.and_false,Bool.or_false,Bool.eq_false_iff]
 intro hc
 obtain⟨g,_,hg⟩:=List.any_eq_true.1 hc
 cases hf:P.funcs[g]? with
 |none=>rw[hf] at hg;cases hg
 |some fn=>
  rw[hf] at hg
  have hg:fn.goes=true:=hg
  have hm:fn∈P.funcs:=Array.mem_of_getElem? hf
  have:P.funcs.any Func.goes=true:=Array.any_eq_true'.2 ⟨fn,hm,hg⟩
  rw[h] at this
  cases this
theorem jt{P:Program}(h:P.funcs.any Func.goes=false)(s:String):P.goesFrom s=false:=by
 unfold Program.goesFrom
 cases P.funcNamed s with
 |none=>rfl
 |some f=>exact jM h f
theorem lQ{P:Program}(h:P.funcs.any Func.goes=false)(st:Start)(s:String):P.goesAt st s=false:=by
 unfold Program.goesAt
 rw[jt h,Bool.false_or]
 split
 ·rfl
 ·rw[Bool.eq_false_iff]
  intro hc
  obtain⟨g,_,hg⟩:=List.any_eq_true.1 hc
  rw[jM h] at hg
  cases hg
theorem qM:Tryz.prog.funcs.any Func.goes=false:=by kernel_rfl
theorem mU:false=Rows.runKnownRow.goesBy Tryz.pinned.checked.prog:=by
 show false=Program.goesAt Tryz.prog Rows.runKnownRow.start Rows.runKnownRow.func
 exact(lQ qM _ _).symm
end Go.Proofs.YtiigiagchaibdaaGreatDoor
