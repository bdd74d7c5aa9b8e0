/- What the argument of layer 38 reads asz; what is laid. -/
import Derived.Test.YtoigciljcejeaaaGreatDoorRows
import Derived.Test.YtoigciljcejeaaaGreatDoorX
import Derived.Test.YtoigciljcejeaaaGreatDoorLb
set_option linter.all false
set_option maxRecDepth 100000
namespace Go.Proofs.YtoigciljcejeaaaGreatDoor
open Go Go.Sk
open Go.ChangeShapes Go.WideShapes Go.ChangeAt Go.RowKit
theorem Tryz.own:ownKnob Tryz.prog.godebug=none:=by kernel_rfl
theorem nw:laidOutB Tryz.prog=true:=by kernel_rfl
abbrev oP:List (String×DataW Unit):=[("unicode.White_Space",Rows.laid_unicode_White_Space),("strings.asciiSpace",Rows.laid_strings_asciiSpace),("ceiling/insn.rows",Rows.laid_ceiling_insn_rows),("ceiling/clock.costs",Rows.laid_ceiling_clock_costs)]
theorem ta(os:Os)(args:Array Value):laidMetH Tryz.prog oP ((World.doorLaid Tryz.prog 400 os).forCall (λ_ _=>0) ⟨#[],args,[]⟩).memory:=
 laidMetH_of_parts3 (fuel:=8) (laidMet_of_run' 8 kR kR) kR kR
theorem pV{W:World}(h:laidMetH Tryz.prog oP W):Gl (bu W) W:=by
 rw[MakeChecks.laidMetH_plain _ _ _ kR] at h;obtain⟨ps,⟨g0,t0,cs0,f0,p0,q0,hg0,ht0,hv0,hd0,⟨g1,t1,cs1,f1,p1,q1,hg1,ht1,hv1,hd1,⟨g2,t2,cs2,f2,p2,q2,hg2,ht2,hv2,hd2,⟨g3,t3,cs3,f3,p3,q3,hg3,ht3,hv3,hd3,_,q3e⟩,q2e⟩,q1e⟩,q0e⟩,_,hall⟩:=h;obtain rfl:=inS ((show Tryz.prog.globalNamed "strings.asciiSpace"=some 2 by kernel_rfl).symm.trans hg1);obtain rfl:=inS ((show(Tryz.prog.globals[2]?).map (·.type)=some 226 by kernel_rfl).symm.trans ht1);have e1:(Rows.laid_strings_asciiSpace:DataW Unit)=(DataW.agg (dm.map λn=>DataW.lit (Lit.int .u8 n)):DataW Unit):=by kernel_rfl
 rw[e1] at hd1;have r1:=ku Tryz.underlying226 Tryz.underlying5 kR kR hg1 hv1 hd1 (nm hall λx hx=>by rw[q0e,q1e];simp only[List.mem_append,hx,true_or,or_true]);obtain rfl:=inS ((show Tryz.prog.globalNamed "ceiling/insn.rows"=some 1 by kernel_rfl).symm.trans hg2);obtain rfl:=inS ((show(Tryz.prog.globals[1]?).map (·.type)=some 200 by kernel_rfl).symm.trans ht2);have e2:(Rows.laid_ceiling_insn_rows:DataW Unit)=(DataW.agg (mV.map λp=>DataW.agg [DataW.lit (Lit.string p.1.data.toList),DataW.lit (Lit.string p.2.data.toList)]):DataW Unit):=by kernel_rfl
 rw[e2] at hd2;have r2:=l6 Tryz.underlying200 Tryz.underlying176 rfl rfl rfl rfl Tryz.underlying9 kR kR kR hg2 hv2 hd2 (nm hall λx hx=>by rw[q0e,q1e,q2e];simp only[List.mem_append,hx,true_or,or_true]);obtain rfl:=inS ((show Tryz.prog.globalNamed "ceiling/clock.costs"=some 0 by kernel_rfl).symm.trans hg3);obtain rfl:=inS ((show(Tryz.prog.globals[0]?).map (·.type)=some 49 by kernel_rfl).symm.trans ht3);have e3:(Rows.laid_ceiling_clock_costs:DataW Unit)=(DataW.agg (nt.map λn=>DataW.lit (Lit.int .i64 n)):DataW Unit):=by kernel_rfl
 rw[e3] at hd3;have r3:=ku Tryz.underlying49 Tryz.underlying2 kR kR hg3 hv3 hd3 (nm hall λx hx=>by rw[q0e,q1e,q2e,q3e];simp only[List.mem_append,hx,true_or,or_true]);intro g ps hps;match g,hps with
 |0,hps=>simp only[gpc,ao] at hps;subst hps;exact r3
 |1,hps=>simp only[gpc,ao] at hps;subst hps;exact r2
 |2,hps=>simp only[gpc,ao] at hps;subst hps;exact r1
 |_+3,hps=>simp[gpc] at hps
theorem u8r{n:Int}(h:IntKind.u8.min<=n/\n<=IntKind.u8.max):0<=n/\n<=255:=by
 have h1:IntKind.u8.min=0:=by decide
 have h2:IntKind.u8.max=255:=by decide
 omega
def LvG(x:cK):Prop:=(0<=x.bef/\x.bef<=255)/\(0<=x.aft/\x.aft<=255)/\(0<=x.bnd/\x.bnd<=255)
theorem cs5:Tryz.prog.cellsOf 5=1:=by kernel_rfl
theorem cs42:Tryz.prog.cellsOf 42=3:=by kernel_rfl
theorem el42:∀x,(E42 x).length=3:=λ_=>rfl
theorem rd42{H:Type}{enc:TypeId×Value->H}{W:World}{spare:Nat->Bool}{held:Bool}(fuel:Nat):Reads enc Tryz.prog W spare held fuel 42 E42 LvG:=by
 induction fuel using Nat.strongRecOn with
 |_ fuel ih=>
 cases fuel with
 |zero=>exact Reads.zero
 |succ fuel=>
 refine mW Tryz.underlying42 cs42 (λcs hl h=>?_);obtain⟨y0,hy0⟩:=h 0 _ rfl;obtain⟨x0,r0,g0⟩:=(ja Tryz.underlying5 fuel) _ _ hy0;simp only[cs5] at r0;obtain⟨y1,hy1⟩:=h 1 _ rfl;obtain⟨x1,r1,g1⟩:=(ja Tryz.underlying5 fuel) _ _ hy1;simp only[cs5] at r1;obtain⟨y2,hy2⟩:=h 2 _ rfl;obtain⟨x2,r2,g2⟩:=(ja Tryz.underlying5 fuel) _ _ hy2;simp only[cs5] at r2;exact⟨cK.mk x0 x1 x2,(by exact(iY r0 rfl (iY r1 rfl (iY r2 rfl (sc hl))))),⟨u8r g0,u8r g1,u8r g2⟩⟩
end Go.Proofs.YtoigciljcejeaaaGreatDoor
