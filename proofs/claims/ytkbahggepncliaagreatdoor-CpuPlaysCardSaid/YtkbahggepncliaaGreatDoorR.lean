/- What the arguments of layer 28 read asz; what is laid. -/
import Derived.Test.YtkbahggepncliaaGreatDoorRows
import Derived.Test.YtkbahggepncliaaGreatDoorX
import Derived.Test.YtkbahggepncliaaGreatDoorLb
set_option linter.unusedVariables false
set_option linter.unusedSimpArgs false
set_option linter.unusedSectionVars false
set_option linter.unnecessarySimpa false
set_option maxRecDepth 100000
namespace Go.Proofs.YtkbahggepncliaaGreatDoor
open Go Go.Sk
open Go.ChangeShapes Go.WideShapes Go.ChangeAt Go.RowKit
theorem Tryz.own:ownKnob Tryz.prog.godebug=none:=by kernel_rfl
theorem oe:laidOutB Tryz.prog=true:=by kernel_rfl
abbrev pb:List (String×DataW Unit):=[("unicode.White_Space",Rows.laid_unicode_White_Space),("strings.asciiSpace",Rows.laid_strings_asciiSpace),("ceiling/insn.rows",Rows.laid_ceiling_insn_rows)]
theorem tG(os:Os)(args:Array Value):laidMetH Tryz.prog pb ((World.doorLaid Tryz.prog 400 os).forCall (λ_ _=>0) ⟨#[],args,[]⟩).memory:=
 laidMetH_of_parts3 (fuel:=8) (laidMet_of_run' 8 kR kR) kR kR
theorem qq{W:World}(h:laidMetH Tryz.prog pb W):Gl (bv W) W:=by
 rw[MakeChecks.laidMetH_plain _ _ _ kR] at h
 obtain⟨ps,⟨g0,t0,cs0,f0,p0,q0,hg0,ht0,hv0,hd0,⟨g1,t1,cs1,f1,p1,q1,hg1,ht1,hv1,hd1,⟨g2,t2,cs2,f2,p2,q2,hg2,ht2,hv2,hd2,_,_⟩,_⟩,_⟩,_,_⟩:=h
 obtain rfl:=inS ((show Tryz.prog.globalNamed "strings.asciiSpace"=some 1 by kernel_rfl).symm.trans hg1)
 obtain rfl:=inS ((show(Tryz.prog.globals[1]?).map (·.type)=some 277 by kernel_rfl).symm.trans ht1)
 have e1:(Rows.laid_strings_asciiSpace:DataW Unit)=(DataW.agg (dY.map λn=>DataW.lit (Lit.int .u8 n)):DataW Unit):=by kernel_rfl
 rw[e1] at hd1
 have r1:=pZ Tryz.underlying277 Tryz.underlying5 kR kR hg1 hv1 hd1
 obtain rfl:=inS ((show Tryz.prog.globalNamed "ceiling/insn.rows"=some 0 by kernel_rfl).symm.trans hg2)
 obtain rfl:=inS ((show(Tryz.prog.globals[0]?).map (·.type)=some 259 by kernel_rfl).symm.trans ht2)
 have e2:(Rows.laid_ceiling_insn_rows:DataW Unit)=(DataW.agg (nR.map λp=>DataW.agg [DataW.lit (Lit.string p.1.data.toList),DataW.lit (Lit.string p.2.data.toList)]):DataW Unit):=by kernel_rfl
 rw[e2] at hd2
 have r2:=mZ Tryz.underlying259 Tryz.underlying224 rfl rfl rfl rfl Tryz.underlying9 kR kR kR hg2 hv2 hd2
 intro g ps hps
 cases g with
 |zero=>
  simp only[gpc,aH] at hps
  subst hps
  exact r2
 |succ g=>
  cases g with
  |zero=>
   simp only[gpc,aH] at hps
   subst hps
   exact r1
  |succ g=>simp[gpc] at hps
theorem ltm{n:Nat}(h:n≤maxLen):n<9223372036854775808:=by simp only[maxLen] at h;omega
structure SzT(t:aj):Prop where
 sz:Sz t
 sa:SzA t
 sn:SzN t
theorem pf{n:Int}(h:IntKind.i64.min≤n∧n≤IntKind.i64.max):I64 n:=by
 have h1:IntKind.i64.min= -9223372036854775808:=by decide
 have h2:IntKind.i64.max=9223372036854775807:=by decide
 unfold I64;omega
theorem cs2:Tryz.prog.cellsOf 2=1:=by kernel_rfl
theorem cs3:Tryz.prog.cellsOf 3=1:=by kernel_rfl
theorem cs4:Tryz.prog.cellsOf 4=1:=by kernel_rfl
theorem cs5:Tryz.prog.cellsOf 5=1:=by kernel_rfl
theorem cs23:Tryz.prog.cellsOf 23=1:=by kernel_rfl
theorem cs25:Tryz.prog.cellsOf 25=1:=by kernel_rfl
theorem cs27:Tryz.prog.cellsOf 27=4:=by kernel_rfl
theorem cs28:Tryz.prog.cellsOf 28=1:=by kernel_rfl
theorem cs29:Tryz.prog.cellsOf 29=1:=by kernel_rfl
theorem cs30:Tryz.prog.cellsOf 30=1:=by kernel_rfl
theorem cs31:Tryz.prog.cellsOf 31=1:=by kernel_rfl
theorem cs32:Tryz.prog.cellsOf 32=1:=by kernel_rfl
theorem cs33:Tryz.prog.cellsOf 33=1:=by kernel_rfl
theorem cs34:Tryz.prog.cellsOf 34=1:=by kernel_rfl
theorem cs35:Tryz.prog.cellsOf 35=1:=by kernel_rfl
theorem cs36:Tryz.prog.cellsOf 36=1:=by kernel_rfl
theorem cs38:Tryz.prog.cellsOf 38=11:=by kernel_rfl
theorem cs39:Tryz.prog.cellsOf 39=16:=by kernel_rfl
theorem cs41:Tryz.prog.cellsOf 41=19:=by kernel_rfl
theorem cs43:Tryz.prog.cellsOf 43=1:=by kernel_rfl
theorem cs45:Tryz.prog.cellsOf 45=7:=by kernel_rfl
theorem uR:Tryz.prog.cellsOf 96=1:=by kernel_rfl
theorem vF:Tryz.prog.cellsOf 101=5:=by kernel_rfl
theorem vE:Tryz.prog.cellsOf 108=4:=by kernel_rfl
theorem vD:Tryz.prog.cellsOf 140=3:=by kernel_rfl
theorem cs146:Tryz.prog.cellsOf 146=1:=by kernel_rfl
theorem cs153:Tryz.prog.cellsOf 153=1:=by kernel_rfl
theorem vC:Tryz.prog.cellsOf 155=3:=by kernel_rfl
theorem cs156:Tryz.prog.cellsOf 156=1:=by kernel_rfl
theorem vB:Tryz.prog.cellsOf 158=5:=by kernel_rfl
theorem vA:Tryz.prog.cellsOf 162=1:=by kernel_rfl
theorem vz:Tryz.prog.cellsOf 164=2:=by kernel_rfl
theorem vy:Tryz.prog.cellsOf 173=2:=by kernel_rfl
theorem cs177:Tryz.prog.cellsOf 177=1:=by kernel_rfl
theorem tK:Tryz.prog.cellsOf 179=9:=by kernel_rfl
theorem vx:Tryz.prog.cellsOf 189=3:=by kernel_rfl
theorem cs190:Tryz.prog.cellsOf 190=1:=by kernel_rfl
theorem vw:Tryz.prog.cellsOf 192=2:=by kernel_rfl
theorem el2:∀x,(E2 x).length=1:=λ_=>rfl
theorem el3:∀x,(E3 x).length=1:=λ_=>rfl
theorem el27:∀x,(E27 x).length=4:=λ_=>rfl
theorem el45:∀x,(E45 x).length=7:=λ_=>rfl
theorem el96:∀x,(E96 x).length=1:=λ_=>rfl
theorem el101:∀x,(br x).length=5:=λ_=>rfl
theorem el108:∀x,(bq x).length=4:=λ_=>rfl
theorem el140:∀x,(bO x).length=3:=λ_=>rfl
theorem el155:∀x,(bS x).length=3:=λ_=>rfl
theorem el158:∀x,(gp x).length=5:=λ_=>rfl
theorem el164:∀x,(bI x).length=2:=λ_=>rfl
theorem el173:∀x,(jw x).length=2:=λ_=>rfl
theorem vr:∀x,(dU x).length=9:=λx=>by rw[iG];rfl
theorem el189:∀x,(bT x).length=3:=λ_=>rfl
theorem el192:∀x,(bY x).length=2:=λ_=>rfl
theorem rd2{H:Type}{enc:TypeId×Value→H}{W:World}{spare:Nat→Bool}{held:Bool}(fuel:Nat):Reads enc Tryz.prog W spare held fuel 2 E2 (λn:Int=>IntKind.i64.min≤n∧n≤IntKind.i64.max):=(au Tryz.underlying2 fuel)
theorem rd3{H:Type}{enc:TypeId×Value→H}{W:World}{spare:Nat→Bool}{held:Bool}(fuel:Nat):Reads enc Tryz.prog W spare held fuel 3 E3 (λn:Int=>IntKind.i64.min≤n∧n≤IntKind.i64.max):=(au Tryz.underlying3 fuel)
theorem rd96{H:Type}{enc:TypeId×Value→H}{W:World}{spare:Nat→Bool}{held:Bool}(fuel:Nat):Reads enc Tryz.prog W spare held fuel 96 E96 (λL:List Int=>(∀x∈L,(λn:Int=>IntKind.i64.min≤n∧n≤IntKind.i64.max) x)∧L.length≤maxLen):=(aY Tryz.underlying96 cs3 dC el3 λf hf=>rd3 f)
theorem rd45{H:Type}{enc:TypeId×Value→H}{W:World}{spare:Nat→Bool}{held:Bool}(fuel:Nat):Reads enc Tryz.prog W spare held fuel 45 E45 (λx:aB=>(0≤x.op∧x.op≤255)∧I64 x.n):=by
 induction fuel using Nat.strongRecOn with
 |_ fuel ih=>
 cases fuel with
 |zero=>exact Reads.zero
 |succ fuel=>
 refine bx Tryz.underlying45 cs45 (λcs hl h=>?_)
 obtain⟨y0,hy0⟩:=h 0 _ rfl
 obtain⟨x0,r0,g0⟩:=(au Tryz.underlying43 fuel) _ _ hy0
 simp only[cs43] at r0
 obtain⟨y1,hy1⟩:=h 1 _ rfl
 obtain⟨x1,r1,g1⟩:=(au Tryz.underlying3 fuel) _ _ hy1
 simp only[cs3] at r1
 obtain⟨y2,hy2⟩:=h 2 _ rfl
 obtain⟨x2,r2,g2⟩:=(au Tryz.underlying3 fuel) _ _ hy2
 simp only[cs3] at r2
 obtain⟨y3,hy3⟩:=h 3 _ rfl
 obtain⟨x3,r3,g3⟩:=(au Tryz.underlying3 fuel) _ _ hy3
 simp only[cs3] at r3
 obtain⟨y4,hy4⟩:=h 4 _ rfl
 obtain⟨x4,r4,g4⟩:=(au Tryz.underlying2 fuel) _ _ hy4
 simp only[cs2] at r4
 obtain⟨y5,hy5⟩:=h 5 _ rfl
 obtain⟨x5,r5,g5⟩:=(au Tryz.underlying2 fuel) _ _ hy5
 simp only[cs2] at r5
 obtain⟨y6,hy6⟩:=h 6 _ rfl
 obtain⟨x6,r6,g6⟩:=(au Tryz.underlying3 fuel) _ _ hy6
 simp only[cs3] at r6
 exact⟨aB.mk x0 x1 x2 x3 x4 x5 x6,(by exact(an r0 rfl (an r1 rfl (an r2 rfl (an r3 rfl (an r4 rfl (an r5 rfl (an r6 rfl (cH hl))))))))),⟨⟨g0.1,g0.2⟩,pf g4⟩⟩
theorem rd108{H:Type}{enc:TypeId×Value→H}{W:World}{spare:Nat→Bool}{held:Bool}(fuel:Nat):Reads enc Tryz.prog W spare held fuel 108 bq (λ_:aG=>True):=by
 induction fuel using Nat.strongRecOn with
 |_ fuel ih=>
 cases fuel with
 |zero=>exact Reads.zero
 |succ fuel=>
 refine bx Tryz.underlying108 vE (λcs hl h=>?_)
 obtain⟨y0,hy0⟩:=h 0 _ rfl
 obtain⟨x0,r0,g0⟩:=(au Tryz.underlying3 fuel) _ _ hy0
 simp only[cs3] at r0
 obtain⟨y1,hy1⟩:=h 1 _ rfl
 obtain⟨x1,r1,g1⟩:=(au Tryz.underlying3 fuel) _ _ hy1
 simp only[cs3] at r1
 obtain⟨y2,hy2⟩:=h 2 _ rfl
 obtain⟨x2,r2,g2⟩:=(au Tryz.underlying3 fuel) _ _ hy2
 simp only[cs3] at r2
 obtain⟨y3,hy3⟩:=h 3 _ rfl
 obtain⟨x3,r3,g3⟩:=(lY Tryz.underlying4 fuel) _ _ hy3
 simp only[cs4] at r3
 exact⟨aG.mk x0 x1 x2 x3,(by exact(an r0 rfl (an r1 rfl (an r2 rfl (an r3 rfl (cH hl)))))),trivial⟩
theorem rd189{H:Type}{enc:TypeId×Value→H}{W:World}{spare:Nat→Bool}{held:Bool}(fuel:Nat):Reads enc Tryz.prog W spare held fuel 189 bT (λ_:Loop=>True):=by
 induction fuel using Nat.strongRecOn with
 |_ fuel ih=>
 cases fuel with
 |zero=>exact Reads.zero
 |succ fuel=>
 refine bx Tryz.underlying189 vx (λcs hl h=>?_)
 obtain⟨y0,hy0⟩:=h 0 _ rfl
 obtain⟨x0,r0,g0⟩:=(au Tryz.underlying3 fuel) _ _ hy0
 simp only[cs3] at r0
 obtain⟨y1,hy1⟩:=h 1 _ rfl
 obtain⟨x1,r1,g1⟩:=(au Tryz.underlying3 fuel) _ _ hy1
 simp only[cs3] at r1
 obtain⟨y2,hy2⟩:=h 2 _ rfl
 obtain⟨x2,r2,g2⟩:=(au Tryz.underlying2 fuel) _ _ hy2
 simp only[cs2] at r2
 exact⟨Loop.mk x0 x1 x2,(by exact(an r0 rfl (an r1 rfl (an r2 rfl (cH hl))))),trivial⟩
theorem rd158{H:Type}{enc:TypeId×Value→H}{W:World}{spare:Nat→Bool}{held:Bool}(fuel:Nat):Reads enc Tryz.prog W spare held fuel 158 gp (λa:ju=>I64 a.entry∧I64 a.time):=by
 induction fuel using Nat.strongRecOn with
 |_ fuel ih=>
 cases fuel with
 |zero=>exact Reads.zero
 |succ fuel=>
 refine bx Tryz.underlying158 vB (λcs hl h=>?_)
 obtain⟨y0,hy0⟩:=h 0 _ rfl
 obtain⟨x0,r0,g0⟩:=(au Tryz.underlying156 fuel) _ _ hy0
 simp only[cs156] at r0
 obtain⟨y1,hy1⟩:=h 1 _ rfl
 obtain⟨x1,r1,g1⟩:=(au Tryz.underlying3 fuel) _ _ hy1
 simp only[cs3] at r1
 obtain⟨y2,hy2⟩:=h 2 _ rfl
 obtain⟨x2,r2,g2⟩:=(au Tryz.underlying3 fuel) _ _ hy2
 simp only[cs3] at r2
 obtain⟨y3,hy3⟩:=h 3 _ rfl
 obtain⟨x3,r3,g3⟩:=(au Tryz.underlying3 fuel) _ _ hy3
 simp only[cs3] at r3
 obtain⟨y4,hy4⟩:=h 4 _ rfl
 obtain⟨x4,r4,g4⟩:=(au Tryz.underlying3 fuel) _ _ hy4
 simp only[cs3] at r4
 exact⟨ju.mk x0 x1 x2 x3 x4,(by exact(an r0 rfl (an r1 rfl (an r2 rfl (an r3 rfl (an r4 rfl (cH hl))))))),⟨pf g1,pf g3⟩⟩
theorem rd155{H:Type}{enc:TypeId×Value→H}{W:World}{spare:Nat→Bool}{held:Bool}(fuel:Nat):Reads enc Tryz.prog W spare held fuel 155 bS (λx:dJ=>∀a∈x.alts,I64 a.entry∧I64 a.time):=by
 induction fuel using Nat.strongRecOn with
 |_ fuel ih=>
 cases fuel with
 |zero=>exact Reads.zero
 |succ fuel=>
 refine bx Tryz.underlying155 vC (λcs hl h=>?_)
 obtain⟨y0,hy0⟩:=h 0 _ rfl
 obtain⟨x0,r0,g0⟩:=(aY Tryz.underlying153 vB dC el158 λf hf=>rd158 f) _ _ hy0
 simp only[cs153] at r0
 obtain⟨y1,hy1⟩:=h 1 _ rfl
 obtain⟨x1,r1,g1⟩:=(au Tryz.underlying3 fuel) _ _ hy1
 simp only[cs3] at r1
 obtain⟨y2,hy2⟩:=h 2 _ rfl
 obtain⟨x2,r2,g2⟩:=(au Tryz.underlying3 fuel) _ _ hy2
 simp only[cs3] at r2
 exact⟨dJ.mk x0 x1 x2,(by exact(an r0 rfl (an r1 rfl (an r2 rfl (cH hl))))),g0.1⟩
theorem rd101{H:Type}{enc:TypeId×Value→H}{W:World}{spare:Nat→Bool}{held:Bool}(fuel:Nat):Reads enc Tryz.prog W spare held fuel 101 br (λx:Obj=>x.set_.length<9223372036854775808∧I64 x.lo):=by
 induction fuel using Nat.strongRecOn with
 |_ fuel ih=>
 cases fuel with
 |zero=>exact Reads.zero
 |succ fuel=>
 refine bx Tryz.underlying101 vF (λcs hl h=>?_)
 obtain⟨y0,hy0⟩:=h 0 _ rfl
 obtain⟨x0,r0,g0⟩:=(au Tryz.underlying3 fuel) _ _ hy0
 simp only[cs3] at r0
 obtain⟨y1,hy1⟩:=h 1 _ rfl
 obtain⟨x1,r1,g1⟩:=(au Tryz.underlying2 fuel) _ _ hy1
 simp only[cs2] at r1
 obtain⟨y2,hy2⟩:=h 2 _ rfl
 obtain⟨x2,r2,g2⟩:=(au Tryz.underlying2 fuel) _ _ hy2
 simp only[cs2] at r2
 obtain⟨y3,hy3⟩:=h 3 _ rfl
 obtain⟨x3,r3,g3⟩:=(lY Tryz.underlying4 fuel) _ _ hy3
 simp only[cs4] at r3
 obtain⟨y4,hy4⟩:=h 4 _ rfl
 obtain⟨x4,r4,g4⟩:=(aY Tryz.underlying96 cs3 dC el3 λf hf=>rd3 f) _ _ hy4
 simp only[uR] at r4
 exact⟨Obj.mk x0 x1 x2 x3 x4,(by exact(an r0 rfl (an r1 rfl (an r2 rfl (an r3 rfl (an r4 rfl (cH hl))))))),⟨ltm g4.2,pf g1⟩⟩
theorem rd140{H:Type}{enc:TypeId×Value→H}{W:World}{spare:Nat→Bool}{held:Bool}(fuel:Nat):Reads enc Tryz.prog W spare held fuel 140 bO (λx:d3=>I64 x.v):=by
 induction fuel using Nat.strongRecOn with
 |_ fuel ih=>
 cases fuel with
 |zero=>exact Reads.zero
 |succ fuel=>
 refine bx Tryz.underlying140 vD (λcs hl h=>?_)
 obtain⟨y0,hy0⟩:=h 0 _ rfl
 obtain⟨x0,r0,g0⟩:=(au Tryz.underlying3 fuel) _ _ hy0
 simp only[cs3] at r0
 obtain⟨y1,hy1⟩:=h 1 _ rfl
 obtain⟨x1,r1,g1⟩:=(au Tryz.underlying3 fuel) _ _ hy1
 simp only[cs3] at r1
 obtain⟨y2,hy2⟩:=h 2 _ rfl
 obtain⟨x2,r2,g2⟩:=(au Tryz.underlying2 fuel) _ _ hy2
 simp only[cs2] at r2
 exact⟨d3.mk x0 x1 x2,(by exact(an r0 rfl (an r1 rfl (an r2 rfl (cH hl))))),pf g2⟩
theorem rd173{H:Type}{enc:TypeId×Value→H}{W:World}{spare:Nat→Bool}{held:Bool}(fuel:Nat):Reads enc Tryz.prog W spare held fuel 173 jw (λ_:cr=>True):=by
 induction fuel using Nat.strongRecOn with
 |_ fuel ih=>
 cases fuel with
 |zero=>exact Reads.zero
 |succ fuel=>
 refine bx Tryz.underlying173 vy (λcs hl h=>?_)
 obtain⟨y0,hy0⟩:=h 0 _ rfl
 obtain⟨x0,r0,g0⟩:=(aY Tryz.underlying96 cs3 dC el3 λf hf=>rd3 f) _ _ hy0
 simp only[uR] at r0
 obtain⟨y1,hy1⟩:=h 1 _ rfl
 obtain⟨x1,r1,g1⟩:=(aY Tryz.underlying96 cs3 dC el3 λf hf=>rd3 f) _ _ hy1
 simp only[uR] at r1
 exact⟨cr.mk x0 x1,(by exact(an r0 rfl (an r1 rfl (cH hl)))),trivial⟩
theorem rd27{H:Type}{enc:TypeId×Value→H}{W:World}{spare:Nat→Bool}{held:Bool}(fuel:Nat):Reads enc Tryz.prog W spare held fuel 27 E27 (λ_:eL=>True):=by
 induction fuel using Nat.strongRecOn with
 |_ fuel ih=>
 cases fuel with
 |zero=>exact Reads.zero
 |succ fuel=>
 refine bx Tryz.underlying27 cs27 (λcs hl h=>?_)
 obtain⟨y0,hy0⟩:=h 0 _ rfl
 obtain⟨x0,r0,g0⟩:=(au Tryz.underlying3 fuel) _ _ hy0
 simp only[cs3] at r0
 obtain⟨y1,hy1⟩:=h 1 _ rfl
 obtain⟨x1,r1,g1⟩:=(au Tryz.underlying3 fuel) _ _ hy1
 simp only[cs3] at r1
 obtain⟨y2,hy2⟩:=h 2 _ rfl
 obtain⟨x2,r2,g2⟩:=(aY Tryz.underlying25 vy dC el173 λf hf=>rd173 f) _ _ hy2
 simp only[cs25] at r2
 obtain⟨y3,hy3⟩:=h 3 _ rfl
 obtain⟨x3,r3,g3⟩:=(au Tryz.underlying2 fuel) _ _ hy3
 simp only[cs2] at r3
 exact⟨eL.mk x0 x1 x2 x3,(by exact(an r0 rfl (an r1 rfl (an r2 rfl (an r3 rfl (cH hl)))))),trivial⟩
theorem rd179{H:Type}{enc:TypeId×Value→H}{W:World}{spare:Nat→Bool}{held:Bool}(fuel:Nat):Reads enc Tryz.prog W spare held fuel 179 dU (λ_:aW=>True):=by
 induction fuel using Nat.strongRecOn with
 |_ fuel ih=>
 cases fuel with
 |zero=>exact Reads.zero
 |succ fuel=>
 refine bx Tryz.underlying179 tK (λcs hl h=>?_)
 obtain⟨y0,hy0⟩:=h 0 _ rfl
 obtain⟨x0,r0,g0⟩:=(au Tryz.underlying177 fuel) _ _ hy0
 simp only[cs177] at r0
 obtain⟨y1,hy1⟩:=h 1 _ rfl
 obtain⟨x1,r1,g1⟩:=(au Tryz.underlying146 fuel) _ _ hy1
 simp only[cs146] at r1
 obtain⟨y2,hy2⟩:=h 2 _ rfl
 obtain⟨x2,r2,g2⟩:=(au Tryz.underlying2 fuel) _ _ hy2
 simp only[cs2] at r2
 obtain⟨y3,hy3⟩:=h 3 _ rfl
 obtain⟨x3,r3,g3⟩:=(au Tryz.underlying3 fuel) _ _ hy3
 simp only[cs3] at r3
 obtain⟨y4,hy4⟩:=h 4 _ rfl
 obtain⟨x4,r4,g4⟩:=(au Tryz.underlying3 fuel) _ _ hy4
 simp only[cs3] at r4
 obtain⟨y5,hy5⟩:=h 5 _ rfl
 obtain⟨x5,r5,g5⟩:=(au Tryz.underlying3 fuel) _ _ hy5
 simp only[cs3] at r5
 obtain⟨y6,hy6⟩:=h 6 _ rfl
 obtain⟨x6,r6,g6⟩:=(au Tryz.underlying2 fuel) _ _ hy6
 simp only[cs2] at r6
 obtain⟨y7,hy7⟩:=h 7 _ rfl
 obtain⟨x7,r7,g7⟩:=(au Tryz.underlying2 fuel) _ _ hy7
 simp only[cs2] at r7
 obtain⟨y8,hy8⟩:=h 8 _ rfl
 obtain⟨x8,r8,g8⟩:=(aY Tryz.underlying162 tK dC vr λf hf=>ih f oM) _ _ hy8
 simp only[vA] at r8
 exact⟨aW.mk x0 x1 x2 x3 x4 x5 x6 x7 x8,(by rw[iG];exact(an r0 rfl (an r1 rfl (an r2 rfl (an r3 rfl (an r4 rfl (an r5 rfl (an r6 rfl (an r7 rfl (an r8 rfl (cH hl))))))))))),trivial⟩
theorem rd164{H:Type}{enc:TypeId×Value→H}{W:World}{spare:Nat→Bool}{held:Bool}(fuel:Nat):Reads enc Tryz.prog W spare held fuel 164 bI (λ_:eJ=>True):=by
 induction fuel using Nat.strongRecOn with
 |_ fuel ih=>
 cases fuel with
 |zero=>exact Reads.zero
 |succ fuel=>
 refine bx Tryz.underlying164 vz (λcs hl h=>?_)
 obtain⟨y0,hy0⟩:=h 0 _ rfl
 obtain⟨x0,r0,g0⟩:=(au Tryz.underlying3 fuel) _ _ hy0
 simp only[cs3] at r0
 obtain⟨y1,hy1⟩:=h 1 _ rfl
 obtain⟨x1,r1,g1⟩:=(aY Tryz.underlying162 tK dC vr λf hf=>rd179 f) _ _ hy1
 simp only[vA] at r1
 exact⟨eJ.mk x0 x1,(by exact(an r0 rfl (an r1 rfl (cH hl)))),trivial⟩
theorem rd192{H:Type}{enc:TypeId×Value→H}{W:World}{spare:Nat→Bool}{held:Bool}(fuel:Nat):Reads enc Tryz.prog W spare held fuel 192 bY (λ_:ff=>True):=by
 induction fuel using Nat.strongRecOn with
 |_ fuel ih=>
 cases fuel with
 |zero=>exact Reads.zero
 |succ fuel=>
 refine bx Tryz.underlying192 vw (λcs hl h=>?_)
 obtain⟨y0,hy0⟩:=h 0 _ rfl
 obtain⟨x0,r0,g0⟩:=(au Tryz.underlying3 fuel) _ _ hy0
 simp only[cs3] at r0
 obtain⟨y1,hy1⟩:=h 1 _ rfl
 obtain⟨x1,r1,g1⟩:=(au Tryz.underlying190 fuel) _ _ hy1
 simp only[cs190] at r1
 exact⟨ff.mk x0 x1,(by exact(an r0 rfl (an r1 rfl (cH hl)))),trivial⟩
theorem rd38{H:Type}{enc:TypeId×Value→H}{W:World}{spare:Nat→Bool}{held:Bool}(fuel:Nat):Reads enc Tryz.prog W spare held fuel 38 E38 SzT:=by
 induction fuel using Nat.strongRecOn with
 |_ fuel ih=>
 cases fuel with
 |zero=>exact Reads.zero
 |succ fuel=>
 refine bx Tryz.underlying38 cs38 (λcs hl h=>?_)
 obtain⟨y0,hy0⟩:=h 0 _ rfl
 obtain⟨x0,r0,g0⟩:=(aY Tryz.underlying23 cs45 dC el45 λf hf=>rd45 f) _ _ hy0
 simp only[cs23] at r0
 obtain⟨y1,hy1⟩:=h 1 _ rfl
 obtain⟨x1,r1,g1⟩:=(aY Tryz.underlying29 vE dC el108 λf hf=>rd108 f) _ _ hy1
 simp only[cs29] at r1
 obtain⟨y2,hy2⟩:=h 2 _ rfl
 obtain⟨x2,r2,g2⟩:=(aY Tryz.underlying30 vx dC el189 λf hf=>rd189 f) _ _ hy2
 simp only[cs30] at r2
 obtain⟨y3,hy3⟩:=h 3 _ rfl
 obtain⟨x3,r3,g3⟩:=(aY Tryz.underlying31 vC dC el155 λf hf=>rd155 f) _ _ hy3
 simp only[cs31] at r3
 obtain⟨y4,hy4⟩:=h 4 _ rfl
 obtain⟨x4,r4,g4⟩:=(aY Tryz.underlying32 uR dC el96 λf hf=>rd96 f) _ _ hy4
 simp only[cs32] at r4
 obtain⟨y5,hy5⟩:=h 5 _ rfl
 obtain⟨x5,r5,g5⟩:=(aY Tryz.underlying33 vF dC el101 λf hf=>rd101 f) _ _ hy5
 simp only[cs33] at r5
 obtain⟨y6,hy6⟩:=h 6 _ rfl
 obtain⟨x6,r6,g6⟩:=(aY Tryz.underlying34 vD dC el140 λf hf=>rd140 f) _ _ hy6
 simp only[cs34] at r6
 obtain⟨y7,hy7⟩:=h 7 _ rfl
 obtain⟨x7,r7,g7⟩:=(au Tryz.underlying3 fuel) _ _ hy7
 simp only[cs3] at r7
 obtain⟨y8,hy8⟩:=h 8 _ rfl
 obtain⟨x8,r8,g8⟩:=(aY Tryz.underlying28 cs27 dC el27 λf hf=>rd27 f) _ _ hy8
 simp only[cs28] at r8
 obtain⟨y9,hy9⟩:=h 9 _ rfl
 obtain⟨x9,r9,g9⟩:=(aY Tryz.underlying35 vz dC el164 λf hf=>rd164 f) _ _ hy9
 simp only[cs35] at r9
 obtain⟨y10,hy10⟩:=h 10 _ rfl
 obtain⟨x10,r10,g10⟩:=(aY Tryz.underlying36 vw dC el192 λf hf=>rd192 f) _ _ hy10
 simp only[cs36] at r10
 exact⟨aj.mk x0 x1 x2 x3 x4 x5 x6 x7 x8 x9 x10,(by exact(an r0 rfl (an r1 rfl (an r2 rfl (an r3 rfl (an r4 rfl (an r5 rfl (an r6 rfl (an r7 rfl (an r8 rfl (an r9 rfl (an r10 rfl (cH hl))))))))))))),⟨⟨λx hx=>(g0.1 x hx).1,ltm g6.2,λx hx=>(g5.1 x hx).1,λl hl=>ltm (g4.1 l hl).2,ltm g9.2,ltm g10.2⟩,⟨g3.1⟩,⟨λx hx=>(g0.1 x hx).2,λx hx=>(g5.1 x hx).2,g6.1⟩⟩⟩
theorem rd39{H:Type}{enc:TypeId×Value→H}{W:World}{spare:Nat→Bool}{held:Bool}:∀fuel:Nat,Reads enc Tryz.prog W spare held fuel 39 E39 (λF:Nat→Int=>∀j,(λn:Int=>IntKind.i64.min≤n∧n≤IntKind.i64.max) (F j))
 |0=>Reads.zero
 |fuel+1=>qd (EA:=λn:Int=> .i .i64 n) 0 dC Tryz.underlying39 cs2 cs39 (au Tryz.underlying2 fuel)
theorem rd41{H:Type}{enc:TypeId×Value→H}{W:World}{spare:Nat→Bool}{held:Bool}(fuel:Nat):Reads enc Tryz.prog W spare held fuel 41 E41 (λr:aq=>RI r.r):=by
 induction fuel using Nat.strongRecOn with
 |_ fuel ih=>
 cases fuel with
 |zero=>exact Reads.zero
 |succ fuel=>
 refine bx Tryz.underlying41 cs41 (λcs hl h=>?_)
 obtain⟨y0,hy0⟩:=h 0 _ rfl
 obtain⟨x0,r0,g0⟩:=(rd39 fuel) _ _ hy0
 change RFs _ _ _ (List.take (Tryz.prog.cellsOf 39) (List.drop 0 cs)) at r0
 rw[cs39] at r0
 obtain⟨y1,hy1⟩:=h 1 _ rfl
 obtain⟨x1,r1,g1⟩:=(au Tryz.underlying3 fuel) _ _ hy1
 simp only[cs3] at r1
 obtain⟨y2,hy2⟩:=h 2 _ rfl
 obtain⟨x2,r2,g2⟩:=(au Tryz.underlying2 fuel) _ _ hy2
 simp only[cs2] at r2
 obtain⟨y3,hy3⟩:=h 3 _ rfl
 obtain⟨x3,r3,g3⟩:=(au Tryz.underlying3 fuel) _ _ hy3
 simp only[cs3] at r3
 exact⟨aq.mk x0 x1 x2 x3,(by exact(an r0 rfl (an r1 rfl (an r2 rfl (an r3 rfl (cH hl)))))),λj=>pf (g0 j)⟩
theorem cs73:Tryz.prog.cellsOf 73=23:=by kernel_rfl
theorem el73:∀x,(E73 x).length=23:=λ_=>rfl
theorem e73(x0:Int)(x1:aq)(x2 x3 x4:Int):E73 (mA.mk x0 x1 x2 x3 x4)=[.i .u8 x0]++(E41 x1++([.i .i64 x2]++([.i .i64 x3]++([.i .i64 x4]++ [])))):=by
 show[D.i .u8 x0]++(R39 x1.r++_)=[D.i .u8 x0]++((R39 x1.r++ [_,_,_])++_)
 rw[List.append_assoc]
 rfl
theorem rd73{H:Type}{enc:TypeId×Value→H}{W:World}{spare:Nat→Bool}{held:Bool}(fuel:Nat):Reads enc Tryz.prog W spare held fuel 73 E73 (λs:mA=>RI s.r.r∧I64 s.v):=by
 induction fuel using Nat.strongRecOn with
 |_ fuel ih=>
 cases fuel with
 |zero=>exact Reads.zero
 |succ fuel=>
 refine bx Tryz.underlying73 cs73 (λcs hl h=>?_)
 obtain⟨y0,hy0⟩:=h 0 _ rfl
 obtain⟨x0,r0,g0⟩:=(au Tryz.underlying5 fuel) _ _ hy0
 simp only[cs5] at r0
 obtain⟨y1,hy1⟩:=h 1 _ rfl
 obtain⟨x1,r1,g1⟩:=(rd41 fuel) _ _ hy1
 change RFs _ _ _ (List.take (Tryz.prog.cellsOf 41) (List.drop 1 cs)) at r1
 rw[cs41] at r1
 obtain⟨y2,hy2⟩:=h 2 _ rfl
 obtain⟨x2,r2,g2⟩:=(au Tryz.underlying3 fuel) _ _ hy2
 simp only[cs3] at r2
 obtain⟨y3,hy3⟩:=h 3 _ rfl
 obtain⟨x3,r3,g3⟩:=(au Tryz.underlying3 fuel) _ _ hy3
 simp only[cs3] at r3
 obtain⟨y4,hy4⟩:=h 4 _ rfl
 obtain⟨x4,r4,g4⟩:=(au Tryz.underlying2 fuel) _ _ hy4
 simp only[cs2] at r4
 exact⟨mA.mk x0 x1 x2 x3 x4,(by rw[e73];exact(an r0 rfl (an r1 rfl (an r2 rfl (an r3 rfl (an r4 rfl (cH hl))))))),⟨g1,pf g4⟩⟩
end Go.Proofs.YtkbahggepncliaaGreatDoor
