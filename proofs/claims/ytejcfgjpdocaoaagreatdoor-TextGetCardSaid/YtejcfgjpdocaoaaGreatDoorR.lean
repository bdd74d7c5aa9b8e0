/- What the arguments of layer 23 read asz; what is laid. -/
import Derived.Test.YtejcfgjpdocaoaaGreatDoorRows
import Derived.Test.YtejcfgjpdocaoaaGreatDoorX
import Derived.Test.YtejcfgjpdocaoaaGreatDoorLb
set_option linter.all false
set_option maxRecDepth 100000
namespace Go.Proofs.YtejcfgjpdocaoaaGreatDoor
open Go Go.Sk
open Go.ChangeShapes Go.WideShapes Go.ChangeAt Go.RowKit
theorem Tryz.own:ownKnob Tryz.prog.godebug=none:=by kernel_rfl
theorem nH:laidOutB Tryz.prog=true:=by kernel_rfl
abbrev oJ:List (String×DataW Unit):=[("unicode.White_Space",Rows.laid_unicode_White_Space),("strings.asciiSpace",Rows.laid_strings_asciiSpace),("ceiling/insn.rows",Rows.laid_ceiling_insn_rows)]
theorem ua(os:Os)(args:Array Value):laidMetH Tryz.prog oJ ((World.doorLaid Tryz.prog 400 os).forCall (λ_ _=>0) ⟨#[],args,[]⟩).memory:=
 laidMetH_of_parts3 (fuel:=8) (laidMet_of_run' 8 kR kR) kR kR
theorem pY{W:World}(h:laidMetH Tryz.prog oJ W):Gl (bq W) W:=by
 rw[MakeChecks.laidMetH_plain _ _ _ kR] at h;obtain⟨ps,⟨g0,t0,cs0,f0,p0,q0,hg0,ht0,hv0,hd0,⟨g1,t1,cs1,f1,p1,q1,hg1,ht1,hv1,hd1,⟨g2,t2,cs2,f2,p2,q2,hg2,ht2,hv2,hd2,_,_⟩,_⟩,_⟩,_,_⟩:=h;obtain rfl:=inS ((show Tryz.prog.globalNamed "strings.asciiSpace"=some 1 by kernel_rfl).symm.trans hg1);obtain rfl:=inS ((show(Tryz.prog.globals[1]?).map (·.type)=some 315 by kernel_rfl).symm.trans ht1);have e1:(Rows.laid_strings_asciiSpace:DataW Unit)=(DataW.agg (dJ.map λn=>DataW.lit (Lit.int .u8 n)):DataW Unit):=by kernel_rfl
 rw[e1] at hd1;have r1:=pH Tryz.underlying315 Tryz.underlying5 kR kR hg1 hv1 hd1;obtain rfl:=inS ((show Tryz.prog.globalNamed "ceiling/insn.rows"=some 0 by kernel_rfl).symm.trans hg2);obtain rfl:=inS ((show(Tryz.prog.globals[0]?).map (·.type)=some 284 by kernel_rfl).symm.trans ht2);have e2:(Rows.laid_ceiling_insn_rows:DataW Unit)=(DataW.agg (mV.map λp=>DataW.agg [DataW.lit (Lit.string p.1.data.toList),DataW.lit (Lit.string p.2.data.toList)]):DataW Unit):=by kernel_rfl
 rw[e2] at hd2;have r2:=lU Tryz.underlying284 Tryz.underlying231 rfl rfl rfl rfl Tryz.underlying9 kR kR kR hg2 hv2 hd2;intro g ps hps;cases g with
 |zero=>simp only[gpc,aH] at hps;subst hps;exact r2
 |succ g=>
  cases g with
  |zero=>simp only[gpc,aH] at hps;subst hps;exact r1
  |succ g=>simp[gpc] at hps
theorem u8r{n:Int}(h:IntKind.u8.min<=n/\n<=IntKind.u8.max):0<=n/\n<256:=by
 have h1:IntKind.u8.min=0:=by decide
 have h2:IntKind.u8.max=255:=by decide
 omega
theorem cs5:Tryz.prog.cellsOf 5=1:=by kernel_rfl
theorem el5:∀x,(E5 x).length=1:=λ_=>rfl
theorem rd5{H:Type}{enc:TypeId×Value->H}{W:World}{spare:Nat->Bool}{held:Bool}(fuel:Nat):Reads enc Tryz.prog W spare held fuel 5 E5 (λn:Int=>IntKind.u8.min<=n/\n<=IntKind.u8.max):=(rN Tryz.underlying5 fuel)
end Go.Proofs.YtejcfgjpdocaoaaGreatDoor
