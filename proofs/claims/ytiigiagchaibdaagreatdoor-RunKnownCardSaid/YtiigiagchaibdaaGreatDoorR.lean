/- What is laid. -/
import Derived.Test.YtiigiagchaibdaaGreatDoorDA
import Derived.Test.YtiigiagchaibdaaGreatDoorDB
import Derived.Test.YtiigiagchaibdaaGreatDoorDC
import Derived.Test.YtiigiagchaibdaaGreatDoorDD
set_option linter.unusedVariables false
set_option linter.unusedSimpArgs false
set_option linter.unusedSectionVars false
set_option linter.unnecessarySimpa false
set_option maxRecDepth 100000
namespace Go.Proofs.YtiigiagchaibdaaGreatDoor
open Go Go.Sk
open Go.ChangeShapes Go.WideShapes Go.ChangeAt Go.RowKit
theorem rb(os:Os)(args:Array Value):laidMetH Tryz.prog jJ (DW os args).memory:=
 laidMetH_of_parts3 (fuel:=8) (laidMet_of_run' 8 (vU os args) (vT os args)) kR kR
theorem mX{W:World}(h:laidMetH Tryz.prog jJ W):Gl (aA W) W:=by
 rw[MakeChecks.laidMetH_plain _ _ _ kR] at h
 obtain⟨ps,⟨g0,t0,cs0,f0,p0,q0,hg0,ht0,hv0,hd0,⟨g1,t1,cs1,f1,p1,q1,hg1,ht1,hv1,hd1,⟨g2,t2,cs2,f2,p2,q2,hg2,ht2,hv2,hd2,_,q2e⟩,q1e⟩,q0e⟩,_,hall⟩:=h
 obtain rfl:=inS ((show Tryz.prog.globalNamed "strings.asciiSpace"=some 1 by kernel_rfl).symm.trans hg1)
 obtain rfl:=inS ((show(Tryz.prog.globals[1]?).map (·.type)=some 451 by kernel_rfl).symm.trans ht1)
 have e1:(Rows.laid_strings_asciiSpace:DataW Unit)=(DataW.agg (bK.map λn=>DataW.lit (Lit.int .u8 n)):DataW Unit):=by kernel_rfl
 rw[e1] at hd1
 have r1:=mI Tryz.underlying451 Tryz.underlying5 kR kR hg1 hv1 hd1 (nZ hall λx hx=>by rw[q0e,q1e];simp only[List.mem_append,hx,true_or,or_true])
 obtain rfl:=inS ((show Tryz.prog.globalNamed "ceiling/insn.rows"=some 0 by kernel_rfl).symm.trans hg2)
 obtain rfl:=inS ((show(Tryz.prog.globals[0]?).map (·.type)=some 395 by kernel_rfl).symm.trans ht2)
 have e2:(Rows.laid_ceiling_insn_rows:DataW Unit)=(DataW.agg (kj.map λp=>DataW.agg [DataW.lit (Lit.string p.1.data.toList),DataW.lit (Lit.string p.2.data.toList)]):DataW Unit):=by kernel_rfl
 rw[e2] at hd2
 have r2:=jn Tryz.underlying395 Tryz.underlying331 rfl rfl rfl rfl Tryz.underlying9 kR kR kR hg2 hv2 hd2 (nZ hall λx hx=>by rw[q0e,q1e,q2e];simp only[List.mem_append,hx,true_or,or_true])
 intro g ps hps
 cases g with
 |zero=>
  simp only[gpc,aa] at hps
  subst hps
  exact r2
 |succ g=>
  cases g with
  |zero=>
   simp only[gpc,aa] at hps
   subst hps
   exact r1
  |succ g=>simp[gpc] at hps
end Go.Proofs.YtiigiagchaibdaaGreatDoor
