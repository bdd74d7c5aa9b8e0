/- What the arguments of the walks of texts read asz; what is laid. -/
import Derived.Test.YtkbpoeellidgeaaGreatDoorRows
import Derived.Test.YtkbpoeellidgeaaGreatDoorX
import Derived.Test.YtkbpoeellidgeaaGreatDoorLb
set_option linter.unusedVariables false
set_option linter.unusedSimpArgs false
set_option linter.unusedSectionVars false
set_option linter.unnecessarySimpa false
set_option maxRecDepth 100000
namespace Go.Proofs.YtkbpoeellidgeaaGreatDoor
open Go Go.Sk
open Go.ChangeShapes Go.WideShapes Go.ChangeAt Go.RowKit
theorem Tryz.own:ownKnob Tryz.prog.godebug=none:=by kernel_rfl
theorem nD:laidOutB Tryz.prog=true:=by kernel_rfl
abbrev oO:List (String×DataW Unit):=[("unicode.White_Space",Rows.laid_unicode_White_Space),("strings.asciiSpace",Rows.laid_strings_asciiSpace),("ceiling/insn.rows",Rows.laid_ceiling_insn_rows)]
theorem tN(os:Os)(args:Array Value):laidMetH Tryz.prog oO ((World.doorLaid Tryz.prog 400 os).forCall (λ_ _=>0) ⟨#[],args,[]⟩).memory:=
 laidMetH_of_parts3 (fuel:=8) (laidMet_of_run' 8 kR kR) kR kR
theorem qe{W:World}(h:laidMetH Tryz.prog oO W):Gl (bj W) W:=by
 rw[MakeChecks.laidMetH_plain _ _ _ kR] at h
 obtain⟨ps,⟨g0,t0,cs0,f0,p0,q0,hg0,ht0,hv0,hd0,⟨g1,t1,cs1,f1,p1,q1,hg1,ht1,hv1,hd1,⟨g2,t2,cs2,f2,p2,q2,hg2,ht2,hv2,hd2,_,_⟩,_⟩,_⟩,_,_⟩:=h
 obtain rfl:=inS ((show Tryz.prog.globalNamed "strings.asciiSpace"=some 1 by kernel_rfl).symm.trans hg1)
 obtain rfl:=inS ((show(Tryz.prog.globals[1]?).map (·.type)=some 211 by kernel_rfl).symm.trans ht1)
 have e1:(Rows.laid_strings_asciiSpace:DataW Unit)=(DataW.agg (dA.map λn=>DataW.lit (Lit.int .u8 n)):DataW Unit):=by kernel_rfl
 rw[e1] at hd1
 have r1:=pQ Tryz.underlying211 Tryz.underlying5 kR kR hg1 hv1 hd1
 obtain rfl:=inS ((show Tryz.prog.globalNamed "ceiling/insn.rows"=some 0 by kernel_rfl).symm.trans hg2)
 obtain rfl:=inS ((show(Tryz.prog.globals[0]?).map (·.type)=some 195 by kernel_rfl).symm.trans ht2)
 have e2:(Rows.laid_ceiling_insn_rows:DataW Unit)=(DataW.agg (ng.map λp=>DataW.agg [DataW.lit (Lit.string p.1.data.toList),DataW.lit (Lit.string p.2.data.toList)]):DataW Unit):=by kernel_rfl
 rw[e2] at hd2
 have r2:=lZ Tryz.underlying195 Tryz.underlying176 rfl rfl rfl rfl Tryz.underlying9 kR kR kR hg2 hv2 hd2
 intro g ps hps
 cases g with
 |zero=>
  simp only[gpc,au] at hps
  subst hps
  exact r2
 |succ g=>
  cases g with
  |zero=>
   simp only[gpc,au] at hps
   subst hps
   exact r1
  |succ g=>simp[gpc] at hps
theorem ltm{n:Nat}(h:n≤maxLen):n<9223372036854775808:=by simp only[maxLen] at h;omega
structure SzT(t:al):Prop where
 sz:Sz t
 sa:SzA t
 ob:∀o∈t.objs, -9223372036854775808≤o.lo∧o.hi≤9223372036854775807
 nn:∀x∈t.insns,I64 x.n
theorem rX{n:Int}(h:IntKind.i64.min≤n∧n≤IntKind.i64.max):I64 n:=by
 have h1:IntKind.i64.min= -9223372036854775808:=by decide
 have h2:IntKind.i64.max=9223372036854775807:=by decide
 unfold I64;omega
theorem cs2:Tryz.prog.cellsOf 2=1:=by kernel_rfl
theorem cs3:Tryz.prog.cellsOf 3=1:=by kernel_rfl
theorem cs4:Tryz.prog.cellsOf 4=1:=by kernel_rfl
theorem cs22:Tryz.prog.cellsOf 22=1:=by kernel_rfl
theorem cs23:Tryz.prog.cellsOf 23=1:=by kernel_rfl
theorem cs24:Tryz.prog.cellsOf 24=1:=by kernel_rfl
theorem cs25:Tryz.prog.cellsOf 25=1:=by kernel_rfl
theorem cs26:Tryz.prog.cellsOf 26=1:=by kernel_rfl
theorem cs27:Tryz.prog.cellsOf 27=1:=by kernel_rfl
theorem cs28:Tryz.prog.cellsOf 28=1:=by kernel_rfl
theorem cs29:Tryz.prog.cellsOf 29=1:=by kernel_rfl
theorem cs30:Tryz.prog.cellsOf 30=1:=by kernel_rfl
theorem cs31:Tryz.prog.cellsOf 31=1:=by kernel_rfl
theorem cs33:Tryz.prog.cellsOf 33=11:=by kernel_rfl
theorem cs46:Tryz.prog.cellsOf 46=1:=by kernel_rfl
theorem cs48:Tryz.prog.cellsOf 48=4:=by kernel_rfl
theorem uV:Tryz.prog.cellsOf 51=1:=by kernel_rfl
theorem cs53:Tryz.prog.cellsOf 53=5:=by kernel_rfl
theorem cs57:Tryz.prog.cellsOf 57=1:=by kernel_rfl
theorem cs59:Tryz.prog.cellsOf 59=7:=by kernel_rfl
theorem cs74:Tryz.prog.cellsOf 74=2:=by kernel_rfl
theorem cs80:Tryz.prog.cellsOf 80=3:=by kernel_rfl
theorem cs85:Tryz.prog.cellsOf 85=1:=by kernel_rfl
theorem cs87:Tryz.prog.cellsOf 87=2:=by kernel_rfl
theorem cs89:Tryz.prog.cellsOf 89=1:=by kernel_rfl
theorem cs90:Tryz.prog.cellsOf 90=1:=by kernel_rfl
theorem wu:Tryz.prog.cellsOf 92=9:=by kernel_rfl
theorem cs93:Tryz.prog.cellsOf 93=1:=by kernel_rfl
theorem cs95:Tryz.prog.cellsOf 95=2:=by kernel_rfl
theorem cs96:Tryz.prog.cellsOf 96=1:=by kernel_rfl
theorem cs98:Tryz.prog.cellsOf 98=3:=by kernel_rfl
theorem cs100:Tryz.prog.cellsOf 100=1:=by kernel_rfl
theorem vA:Tryz.prog.cellsOf 102=5:=by kernel_rfl
theorem vz:Tryz.prog.cellsOf 104=4:=by kernel_rfl
theorem vy:Tryz.prog.cellsOf 106=3:=by kernel_rfl
theorem el3:∀x,(E3 x).length=1:=λ_=>rfl
theorem el48:∀x,(E48 x).length=4:=λ_=>rfl
theorem el51:∀x,(E51 x).length=1:=λ_=>rfl
theorem el53:∀x,(E53 x).length=5:=λ_=>rfl
theorem el59:∀x,(E59 x).length=7:=λ_=>rfl
theorem el74:∀x,(E74 x).length=2:=λ_=>rfl
theorem el80:∀x,(E80 x).length=3:=λ_=>rfl
theorem el87:∀x,(E87 x).length=2:=λ_=>rfl
theorem el92:∀x,(E92 x).length=9:=λx=>by rw[jX];rfl
theorem el95:∀x,(E95 x).length=2:=λ_=>rfl
theorem el98:∀x,(E98 x).length=3:=λ_=>rfl
theorem el102:∀x,(eo x).length=5:=λ_=>rfl
theorem el104:∀x,(cq x).length=4:=λ_=>rfl
theorem el106:∀x,(cM x).length=3:=λ_=>rfl
theorem rd3{H:Type}{enc:TypeId×Value→H}{W:World}{spare:Nat→Bool}{held:Bool}(fuel:Nat):Reads enc Tryz.prog W spare held fuel 3 E3 (λn:Int=>IntKind.i64.min≤n∧n≤IntKind.i64.max):=(aF Tryz.underlying3 fuel)
theorem rd51{H:Type}{enc:TypeId×Value→H}{W:World}{spare:Nat→Bool}{held:Bool}(fuel:Nat):Reads enc Tryz.prog W spare held fuel 51 E51 (λL:List Int=>(∀x∈L,(λn:Int=>IntKind.i64.min≤n∧n≤IntKind.i64.max) x)∧L.length≤maxLen):=(br Tryz.underlying51 cs3 dC el3 λf hf=>rd3 f)
theorem rd59{H:Type}{enc:TypeId×Value→H}{W:World}{spare:Nat→Bool}{held:Bool}(fuel:Nat):Reads enc Tryz.prog W spare held fuel 59 E59 (λx:ao=>(0≤x.op∧x.op≤255)∧I64 x.n):=by
 induction fuel using Nat.strongRecOn with
 |_ fuel ih=>
 cases fuel with
 |zero=>exact Reads.zero
 |succ fuel=>
 refine bM Tryz.underlying59 cs59 (λcs hl h=>?_)
 obtain⟨y0,hy0⟩:=h 0 _ rfl
 obtain⟨x0,r0,g0⟩:=(aF Tryz.underlying57 fuel) _ _ hy0
 simp only[cs57] at r0
 obtain⟨y1,hy1⟩:=h 1 _ rfl
 obtain⟨x1,r1,g1⟩:=(aF Tryz.underlying3 fuel) _ _ hy1
 simp only[cs3] at r1
 obtain⟨y2,hy2⟩:=h 2 _ rfl
 obtain⟨x2,r2,g2⟩:=(aF Tryz.underlying3 fuel) _ _ hy2
 simp only[cs3] at r2
 obtain⟨y3,hy3⟩:=h 3 _ rfl
 obtain⟨x3,r3,g3⟩:=(aF Tryz.underlying3 fuel) _ _ hy3
 simp only[cs3] at r3
 obtain⟨y4,hy4⟩:=h 4 _ rfl
 obtain⟨x4,r4,g4⟩:=(aF Tryz.underlying2 fuel) _ _ hy4
 simp only[cs2] at r4
 obtain⟨y5,hy5⟩:=h 5 _ rfl
 obtain⟨x5,r5,g5⟩:=(aF Tryz.underlying2 fuel) _ _ hy5
 simp only[cs2] at r5
 obtain⟨y6,hy6⟩:=h 6 _ rfl
 obtain⟨x6,r6,g6⟩:=(aF Tryz.underlying3 fuel) _ _ hy6
 simp only[cs3] at r6
 exact⟨ao.mk x0 x1 x2 x3 x4 x5 x6,(by exact(aq r0 rfl (aq r1 rfl (aq r2 rfl (aq r3 rfl (aq r4 rfl (aq r5 rfl (aq r6 rfl (cY hl))))))))),⟨⟨g0.1,g0.2⟩,rX g4⟩⟩
theorem rd104{H:Type}{enc:TypeId×Value→H}{W:World}{spare:Nat→Bool}{held:Bool}(fuel:Nat):Reads enc Tryz.prog W spare held fuel 104 cq (λ_:bB=>True):=by
 induction fuel using Nat.strongRecOn with
 |_ fuel ih=>
 cases fuel with
 |zero=>exact Reads.zero
 |succ fuel=>
 refine bM Tryz.underlying104 vz (λcs hl h=>?_)
 obtain⟨y0,hy0⟩:=h 0 _ rfl
 obtain⟨x0,r0,g0⟩:=(aF Tryz.underlying3 fuel) _ _ hy0
 simp only[cs3] at r0
 obtain⟨y1,hy1⟩:=h 1 _ rfl
 obtain⟨x1,r1,g1⟩:=(aF Tryz.underlying3 fuel) _ _ hy1
 simp only[cs3] at r1
 obtain⟨y2,hy2⟩:=h 2 _ rfl
 obtain⟨x2,r2,g2⟩:=(aF Tryz.underlying3 fuel) _ _ hy2
 simp only[cs3] at r2
 obtain⟨y3,hy3⟩:=h 3 _ rfl
 obtain⟨x3,r3,g3⟩:=(kQ Tryz.underlying4 fuel) _ _ hy3
 simp only[cs4] at r3
 exact⟨bB.mk x0 x1 x2 x3,(by exact(aq r0 rfl (aq r1 rfl (aq r2 rfl (aq r3 rfl (cY hl)))))),trivial⟩
theorem rd106{H:Type}{enc:TypeId×Value→H}{W:World}{spare:Nat→Bool}{held:Bool}(fuel:Nat):Reads enc Tryz.prog W spare held fuel 106 cM (λ_:Loop=>True):=by
 induction fuel using Nat.strongRecOn with
 |_ fuel ih=>
 cases fuel with
 |zero=>exact Reads.zero
 |succ fuel=>
 refine bM Tryz.underlying106 vy (λcs hl h=>?_)
 obtain⟨y0,hy0⟩:=h 0 _ rfl
 obtain⟨x0,r0,g0⟩:=(aF Tryz.underlying3 fuel) _ _ hy0
 simp only[cs3] at r0
 obtain⟨y1,hy1⟩:=h 1 _ rfl
 obtain⟨x1,r1,g1⟩:=(aF Tryz.underlying3 fuel) _ _ hy1
 simp only[cs3] at r1
 obtain⟨y2,hy2⟩:=h 2 _ rfl
 obtain⟨x2,r2,g2⟩:=(aF Tryz.underlying2 fuel) _ _ hy2
 simp only[cs2] at r2
 exact⟨Loop.mk x0 x1 x2,(by exact(aq r0 rfl (aq r1 rfl (aq r2 rfl (cY hl))))),trivial⟩
theorem rd102{H:Type}{enc:TypeId×Value→H}{W:World}{spare:Nat→Bool}{held:Bool}(fuel:Nat):Reads enc Tryz.prog W spare held fuel 102 eo (λa:jb=>I64 a.entry∧I64 a.time):=by
 induction fuel using Nat.strongRecOn with
 |_ fuel ih=>
 cases fuel with
 |zero=>exact Reads.zero
 |succ fuel=>
 refine bM Tryz.underlying102 vA (λcs hl h=>?_)
 obtain⟨y0,hy0⟩:=h 0 _ rfl
 obtain⟨x0,r0,g0⟩:=(aF Tryz.underlying100 fuel) _ _ hy0
 simp only[cs100] at r0
 obtain⟨y1,hy1⟩:=h 1 _ rfl
 obtain⟨x1,r1,g1⟩:=(aF Tryz.underlying3 fuel) _ _ hy1
 simp only[cs3] at r1
 obtain⟨y2,hy2⟩:=h 2 _ rfl
 obtain⟨x2,r2,g2⟩:=(aF Tryz.underlying3 fuel) _ _ hy2
 simp only[cs3] at r2
 obtain⟨y3,hy3⟩:=h 3 _ rfl
 obtain⟨x3,r3,g3⟩:=(aF Tryz.underlying3 fuel) _ _ hy3
 simp only[cs3] at r3
 obtain⟨y4,hy4⟩:=h 4 _ rfl
 obtain⟨x4,r4,g4⟩:=(aF Tryz.underlying3 fuel) _ _ hy4
 simp only[cs3] at r4
 exact⟨jb.mk x0 x1 x2 x3 x4,(by exact(aq r0 rfl (aq r1 rfl (aq r2 rfl (aq r3 rfl (aq r4 rfl (cY hl))))))),⟨rX g1,rX g3⟩⟩
theorem rd98{H:Type}{enc:TypeId×Value→H}{W:World}{spare:Nat→Bool}{held:Bool}(fuel:Nat):Reads enc Tryz.prog W spare held fuel 98 E98 (λx:c4=>∀a∈x.alts,I64 a.entry∧I64 a.time):=by
 induction fuel using Nat.strongRecOn with
 |_ fuel ih=>
 cases fuel with
 |zero=>exact Reads.zero
 |succ fuel=>
 refine bM Tryz.underlying98 cs98 (λcs hl h=>?_)
 obtain⟨y0,hy0⟩:=h 0 _ rfl
 obtain⟨x0,r0,g0⟩:=(br Tryz.underlying96 vA dC el102 λf hf=>rd102 f) _ _ hy0
 simp only[cs96] at r0
 obtain⟨y1,hy1⟩:=h 1 _ rfl
 obtain⟨x1,r1,g1⟩:=(aF Tryz.underlying3 fuel) _ _ hy1
 simp only[cs3] at r1
 obtain⟨y2,hy2⟩:=h 2 _ rfl
 obtain⟨x2,r2,g2⟩:=(aF Tryz.underlying3 fuel) _ _ hy2
 simp only[cs3] at r2
 exact⟨c4.mk x0 x1 x2,(by exact(aq r0 rfl (aq r1 rfl (aq r2 rfl (cY hl))))),g0.1⟩
theorem rd53{H:Type}{enc:TypeId×Value→H}{W:World}{spare:Nat→Bool}{held:Bool}(fuel:Nat):Reads enc Tryz.prog W spare held fuel 53 E53 (λx:Obj=>x.set_.length<9223372036854775808∧I64 x.lo∧I64 x.hi):=by
 induction fuel using Nat.strongRecOn with
 |_ fuel ih=>
 cases fuel with
 |zero=>exact Reads.zero
 |succ fuel=>
 refine bM Tryz.underlying53 cs53 (λcs hl h=>?_)
 obtain⟨y0,hy0⟩:=h 0 _ rfl
 obtain⟨x0,r0,g0⟩:=(aF Tryz.underlying3 fuel) _ _ hy0
 simp only[cs3] at r0
 obtain⟨y1,hy1⟩:=h 1 _ rfl
 obtain⟨x1,r1,g1⟩:=(aF Tryz.underlying2 fuel) _ _ hy1
 simp only[cs2] at r1
 obtain⟨y2,hy2⟩:=h 2 _ rfl
 obtain⟨x2,r2,g2⟩:=(aF Tryz.underlying2 fuel) _ _ hy2
 simp only[cs2] at r2
 obtain⟨y3,hy3⟩:=h 3 _ rfl
 obtain⟨x3,r3,g3⟩:=(kQ Tryz.underlying4 fuel) _ _ hy3
 simp only[cs4] at r3
 obtain⟨y4,hy4⟩:=h 4 _ rfl
 obtain⟨x4,r4,g4⟩:=(br Tryz.underlying51 cs3 dC el3 λf hf=>rd3 f) _ _ hy4
 simp only[uV] at r4
 exact⟨Obj.mk x0 x1 x2 x3 x4,(by exact(aq r0 rfl (aq r1 rfl (aq r2 rfl (aq r3 rfl (aq r4 rfl (cY hl))))))),⟨ltm g4.2,rX g1,rX g2⟩⟩
theorem rd80{H:Type}{enc:TypeId×Value→H}{W:World}{spare:Nat→Bool}{held:Bool}(fuel:Nat):Reads enc Tryz.prog W spare held fuel 80 E80 (λx:bZ=>I64 x.v):=by
 induction fuel using Nat.strongRecOn with
 |_ fuel ih=>
 cases fuel with
 |zero=>exact Reads.zero
 |succ fuel=>
 refine bM Tryz.underlying80 cs80 (λcs hl h=>?_)
 obtain⟨y0,hy0⟩:=h 0 _ rfl
 obtain⟨x0,r0,g0⟩:=(aF Tryz.underlying3 fuel) _ _ hy0
 simp only[cs3] at r0
 obtain⟨y1,hy1⟩:=h 1 _ rfl
 obtain⟨x1,r1,g1⟩:=(aF Tryz.underlying3 fuel) _ _ hy1
 simp only[cs3] at r1
 obtain⟨y2,hy2⟩:=h 2 _ rfl
 obtain⟨x2,r2,g2⟩:=(aF Tryz.underlying2 fuel) _ _ hy2
 simp only[cs2] at r2
 exact⟨bZ.mk x0 x1 x2,(by exact(aq r0 rfl (aq r1 rfl (aq r2 rfl (cY hl))))),rX g2⟩
theorem rd74{H:Type}{enc:TypeId×Value→H}{W:World}{spare:Nat→Bool}{held:Bool}(fuel:Nat):Reads enc Tryz.prog W spare held fuel 74 E74 (λ_:bO=>True):=by
 induction fuel using Nat.strongRecOn with
 |_ fuel ih=>
 cases fuel with
 |zero=>exact Reads.zero
 |succ fuel=>
 refine bM Tryz.underlying74 cs74 (λcs hl h=>?_)
 obtain⟨y0,hy0⟩:=h 0 _ rfl
 obtain⟨x0,r0,g0⟩:=(br Tryz.underlying51 cs3 dC el3 λf hf=>rd3 f) _ _ hy0
 simp only[uV] at r0
 obtain⟨y1,hy1⟩:=h 1 _ rfl
 obtain⟨x1,r1,g1⟩:=(br Tryz.underlying51 cs3 dC el3 λf hf=>rd3 f) _ _ hy1
 simp only[uV] at r1
 exact⟨bO.mk x0 x1,(by exact(aq r0 rfl (aq r1 rfl (cY hl)))),trivial⟩
theorem rd48{H:Type}{enc:TypeId×Value→H}{W:World}{spare:Nat→Bool}{held:Bool}(fuel:Nat):Reads enc Tryz.prog W spare held fuel 48 E48 (λ_:bJ=>True):=by
 induction fuel using Nat.strongRecOn with
 |_ fuel ih=>
 cases fuel with
 |zero=>exact Reads.zero
 |succ fuel=>
 refine bM Tryz.underlying48 cs48 (λcs hl h=>?_)
 obtain⟨y0,hy0⟩:=h 0 _ rfl
 obtain⟨x0,r0,g0⟩:=(aF Tryz.underlying3 fuel) _ _ hy0
 simp only[cs3] at r0
 obtain⟨y1,hy1⟩:=h 1 _ rfl
 obtain⟨x1,r1,g1⟩:=(aF Tryz.underlying3 fuel) _ _ hy1
 simp only[cs3] at r1
 obtain⟨y2,hy2⟩:=h 2 _ rfl
 obtain⟨x2,r2,g2⟩:=(br Tryz.underlying46 cs74 dC el74 λf hf=>rd74 f) _ _ hy2
 simp only[cs46] at r2
 obtain⟨y3,hy3⟩:=h 3 _ rfl
 obtain⟨x3,r3,g3⟩:=(aF Tryz.underlying2 fuel) _ _ hy3
 simp only[cs2] at r3
 exact⟨bJ.mk x0 x1 x2 x3,(by exact(aq r0 rfl (aq r1 rfl (aq r2 rfl (aq r3 rfl (cY hl)))))),trivial⟩
theorem rd92{H:Type}{enc:TypeId×Value→H}{W:World}{spare:Nat→Bool}{held:Bool}(fuel:Nat):Reads enc Tryz.prog W spare held fuel 92 E92 (λ_:bc=>True):=by
 induction fuel using Nat.strongRecOn with
 |_ fuel ih=>
 cases fuel with
 |zero=>exact Reads.zero
 |succ fuel=>
 refine bM Tryz.underlying92 wu (λcs hl h=>?_)
 obtain⟨y0,hy0⟩:=h 0 _ rfl
 obtain⟨x0,r0,g0⟩:=(aF Tryz.underlying89 fuel) _ _ hy0
 simp only[cs89] at r0
 obtain⟨y1,hy1⟩:=h 1 _ rfl
 obtain⟨x1,r1,g1⟩:=(aF Tryz.underlying90 fuel) _ _ hy1
 simp only[cs90] at r1
 obtain⟨y2,hy2⟩:=h 2 _ rfl
 obtain⟨x2,r2,g2⟩:=(aF Tryz.underlying2 fuel) _ _ hy2
 simp only[cs2] at r2
 obtain⟨y3,hy3⟩:=h 3 _ rfl
 obtain⟨x3,r3,g3⟩:=(aF Tryz.underlying3 fuel) _ _ hy3
 simp only[cs3] at r3
 obtain⟨y4,hy4⟩:=h 4 _ rfl
 obtain⟨x4,r4,g4⟩:=(aF Tryz.underlying3 fuel) _ _ hy4
 simp only[cs3] at r4
 obtain⟨y5,hy5⟩:=h 5 _ rfl
 obtain⟨x5,r5,g5⟩:=(aF Tryz.underlying3 fuel) _ _ hy5
 simp only[cs3] at r5
 obtain⟨y6,hy6⟩:=h 6 _ rfl
 obtain⟨x6,r6,g6⟩:=(aF Tryz.underlying2 fuel) _ _ hy6
 simp only[cs2] at r6
 obtain⟨y7,hy7⟩:=h 7 _ rfl
 obtain⟨x7,r7,g7⟩:=(aF Tryz.underlying2 fuel) _ _ hy7
 simp only[cs2] at r7
 obtain⟨y8,hy8⟩:=h 8 _ rfl
 obtain⟨x8,r8,g8⟩:=(br Tryz.underlying85 wu dC el92 λf hf=>ih f oM) _ _ hy8
 simp only[cs85] at r8
 exact⟨bc.mk x0 x1 x2 x3 x4 x5 x6 x7 x8,(by rw[jX];exact(aq r0 rfl (aq r1 rfl (aq r2 rfl (aq r3 rfl (aq r4 rfl (aq r5 rfl (aq r6 rfl (aq r7 rfl (aq r8 rfl (cY hl))))))))))),trivial⟩
theorem rd87{H:Type}{enc:TypeId×Value→H}{W:World}{spare:Nat→Bool}{held:Bool}(fuel:Nat):Reads enc Tryz.prog W spare held fuel 87 E87 (λ_:eH=>True):=by
 induction fuel using Nat.strongRecOn with
 |_ fuel ih=>
 cases fuel with
 |zero=>exact Reads.zero
 |succ fuel=>
 refine bM Tryz.underlying87 cs87 (λcs hl h=>?_)
 obtain⟨y0,hy0⟩:=h 0 _ rfl
 obtain⟨x0,r0,g0⟩:=(aF Tryz.underlying3 fuel) _ _ hy0
 simp only[cs3] at r0
 obtain⟨y1,hy1⟩:=h 1 _ rfl
 obtain⟨x1,r1,g1⟩:=(br Tryz.underlying85 wu dC el92 λf hf=>rd92 f) _ _ hy1
 simp only[cs85] at r1
 exact⟨eH.mk x0 x1,(by exact(aq r0 rfl (aq r1 rfl (cY hl)))),trivial⟩
theorem rd95{H:Type}{enc:TypeId×Value→H}{W:World}{spare:Nat→Bool}{held:Bool}(fuel:Nat):Reads enc Tryz.prog W spare held fuel 95 E95 (λ_:ef=>True):=by
 induction fuel using Nat.strongRecOn with
 |_ fuel ih=>
 cases fuel with
 |zero=>exact Reads.zero
 |succ fuel=>
 refine bM Tryz.underlying95 cs95 (λcs hl h=>?_)
 obtain⟨y0,hy0⟩:=h 0 _ rfl
 obtain⟨x0,r0,g0⟩:=(aF Tryz.underlying3 fuel) _ _ hy0
 simp only[cs3] at r0
 obtain⟨y1,hy1⟩:=h 1 _ rfl
 obtain⟨x1,r1,g1⟩:=(aF Tryz.underlying93 fuel) _ _ hy1
 simp only[cs93] at r1
 exact⟨ef.mk x0 x1,(by exact(aq r0 rfl (aq r1 rfl (cY hl)))),trivial⟩
theorem rd33{H:Type}{enc:TypeId×Value→H}{W:World}{spare:Nat→Bool}{held:Bool}(fuel:Nat):Reads enc Tryz.prog W spare held fuel 33 E33 SzT:=by
 induction fuel using Nat.strongRecOn with
 |_ fuel ih=>
 cases fuel with
 |zero=>exact Reads.zero
 |succ fuel=>
 refine bM Tryz.underlying33 cs33 (λcs hl h=>?_)
 obtain⟨y0,hy0⟩:=h 0 _ rfl
 obtain⟨x0,r0,g0⟩:=(br Tryz.underlying22 cs59 dC el59 λf hf=>rd59 f) _ _ hy0
 simp only[cs22] at r0
 obtain⟨y1,hy1⟩:=h 1 _ rfl
 obtain⟨x1,r1,g1⟩:=(br Tryz.underlying23 vz dC el104 λf hf=>rd104 f) _ _ hy1
 simp only[cs23] at r1
 obtain⟨y2,hy2⟩:=h 2 _ rfl
 obtain⟨x2,r2,g2⟩:=(br Tryz.underlying24 vy dC el106 λf hf=>rd106 f) _ _ hy2
 simp only[cs24] at r2
 obtain⟨y3,hy3⟩:=h 3 _ rfl
 obtain⟨x3,r3,g3⟩:=(br Tryz.underlying25 cs98 dC el98 λf hf=>rd98 f) _ _ hy3
 simp only[cs25] at r3
 obtain⟨y4,hy4⟩:=h 4 _ rfl
 obtain⟨x4,r4,g4⟩:=(br Tryz.underlying26 uV dC el51 λf hf=>rd51 f) _ _ hy4
 simp only[cs26] at r4
 obtain⟨y5,hy5⟩:=h 5 _ rfl
 obtain⟨x5,r5,g5⟩:=(br Tryz.underlying27 cs53 dC el53 λf hf=>rd53 f) _ _ hy5
 simp only[cs27] at r5
 obtain⟨y6,hy6⟩:=h 6 _ rfl
 obtain⟨x6,r6,g6⟩:=(br Tryz.underlying28 cs80 dC el80 λf hf=>rd80 f) _ _ hy6
 simp only[cs28] at r6
 obtain⟨y7,hy7⟩:=h 7 _ rfl
 obtain⟨x7,r7,g7⟩:=(aF Tryz.underlying3 fuel) _ _ hy7
 simp only[cs3] at r7
 obtain⟨y8,hy8⟩:=h 8 _ rfl
 obtain⟨x8,r8,g8⟩:=(br Tryz.underlying29 cs48 dC el48 λf hf=>rd48 f) _ _ hy8
 simp only[cs29] at r8
 obtain⟨y9,hy9⟩:=h 9 _ rfl
 obtain⟨x9,r9,g9⟩:=(br Tryz.underlying30 cs87 dC el87 λf hf=>rd87 f) _ _ hy9
 simp only[cs30] at r9
 obtain⟨y10,hy10⟩:=h 10 _ rfl
 obtain⟨x10,r10,g10⟩:=(br Tryz.underlying31 cs95 dC el95 λf hf=>rd95 f) _ _ hy10
 simp only[cs31] at r10
 exact⟨al.mk x0 x1 x2 x3 x4 x5 x6 x7 x8 x9 x10,(by exact(aq r0 rfl (aq r1 rfl (aq r2 rfl (aq r3 rfl (aq r4 rfl (aq r5 rfl (aq r6 rfl (aq r7 rfl (aq r8 rfl (aq r9 rfl (aq r10 rfl (cY hl))))))))))))),⟨⟨λx hx=>(g0.1 x hx).1,ltm g6.2,λx hx=>(g5.1 x hx).1,λl hl=>ltm (g4.1 l hl).2,ltm g9.2,ltm g10.2⟩,⟨g3.1⟩,λo ho=>⟨(g5.1 o ho).2.1.1,(g5.1 o ho).2.2.2⟩,λx hx=>(g0.1 x hx).2⟩⟩
end Go.Proofs.YtkbpoeellidgeaaGreatDoor
