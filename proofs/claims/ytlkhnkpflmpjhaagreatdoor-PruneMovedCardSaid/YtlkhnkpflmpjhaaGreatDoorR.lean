/- What is laid. -/
import Derived.Test.YtlkhnkpflmpjhaaGreatDoorRows
import Derived.Test.YtlkhnkpflmpjhaaGreatDoorX
import Derived.Test.YtlkhnkpflmpjhaaGreatDoorL
set_option linter.unusedVariables false
set_option linter.unusedSimpArgs false
set_option linter.unusedSectionVars false
set_option linter.unnecessarySimpa false
set_option maxRecDepth 100000
namespace Go.Proofs.YtlkhnkpflmpjhaaGreatDoor
open Go Go.Sk
open Go.ChangeShapes Go.WideShapes Go.ChangeAt Go.RowKit
theorem Tryz.own:ownKnob Tryz.prog.godebug=none:=by kernel_rfl
theorem jz:laidOutB Tryz.prog=true:=by kernel_rfl
abbrev kd:List (String×DataW Unit):=[("unicode.White_Space",Rows.laid_unicode_White_Space),("strings.asciiSpace",Rows.laid_strings_asciiSpace),("ceiling/insn.rows",Rows.laid_ceiling_insn_rows)]
theorem oH(os:Os)(args:Array Value):laidMetH Tryz.prog kd ((World.doorLaid Tryz.prog 400 os).forCall (λ_ _=>0) ⟨#[],args,[]⟩).memory:=
 laidMetH_of_parts3 (fuel:=8) (laidMet_of_run' 8 kR kR) kR kR
theorem lj{W:World}(h:laidMetH Tryz.prog kd W):Gl (an W) W:=by
 rw[MakeChecks.laidMetH_plain _ _ _ kR] at h
 obtain⟨ps,⟨g0,t0,cs0,f0,p0,q0,hg0,ht0,hv0,hd0,⟨g1,t1,cs1,f1,p1,q1,hg1,ht1,hv1,hd1,⟨g2,t2,cs2,f2,p2,q2,hg2,ht2,hv2,hd2,_,_⟩,_⟩,_⟩,_,_⟩:=h
 obtain rfl:=inS ((show Tryz.prog.globalNamed "strings.asciiSpace"=some 1 by kernel_rfl).symm.trans hg1)
 obtain rfl:=inS ((show(Tryz.prog.globals[1]?).map (·.type)=some 252 by kernel_rfl).symm.trans ht1)
 have e1:(Rows.laid_strings_asciiSpace:DataW Unit)=(DataW.agg (bH.map λn=>DataW.lit (Lit.int .u8 n)):DataW Unit):=by kernel_rfl
 rw[e1] at hd1
 have r1:=k6 Tryz.underlying252 Tryz.underlying5 kR kR hg1 hv1 hd1
 obtain rfl:=inS ((show Tryz.prog.globalNamed "ceiling/insn.rows"=some 0 by kernel_rfl).symm.trans hg2)
 obtain rfl:=inS ((show(Tryz.prog.globals[0]?).map (·.type)=some 230 by kernel_rfl).symm.trans ht2)
 have e2:(Rows.laid_ceiling_insn_rows:DataW Unit)=(DataW.agg (jb.map λp=>DataW.agg [DataW.lit (Lit.string p.1.data.toList),DataW.lit (Lit.string p.2.data.toList)]):DataW Unit):=by kernel_rfl
 rw[e2] at hd2
 have r2:=hZ Tryz.underlying230 Tryz.underlying200 rfl rfl rfl rfl Tryz.underlying9 kR kR kR hg2 hv2 hd2
 intro g ps hps
 cases g with
 |zero=>
  simp only[gpc,ab] at hps
  subst hps
  exact r2
 |succ g=>
  cases g with
  |zero=>
   simp only[gpc,ab] at hps
   subst hps
   exact r1
  |succ g=>simp[gpc] at hps
theorem cs3:Tryz.prog.cellsOf 3=1:=by kernel_rfl
theorem el3:∀x,(E3 x).length=1:=λ_=>rfl
theorem rd3{H:Type}{enc:TypeId×Value→H}{W:World}{spare:Nat→Bool}{held:Bool}(fuel:Nat):Reads enc Tryz.prog W spare held fuel 3 E3 (λn:Int=>IntKind.i64.min≤n∧n≤IntKind.i64.max):=(is Tryz.underlying3 fuel)
end Go.Proofs.YtlkhnkpflmpjhaaGreatDoor
