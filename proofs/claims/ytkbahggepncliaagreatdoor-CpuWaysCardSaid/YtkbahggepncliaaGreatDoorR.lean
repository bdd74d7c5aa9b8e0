/- What the arguments of layer 28 read asz; what is laid. -/
import Derived.Test.YtkbahggepncliaaGreatDoorRows
import Derived.Test.YtkbahggepncliaaGreatDoorX
import Derived.Test.YtkbahggepncliaaGreatDoorL
set_option linter.unusedVariables false
set_option linter.unusedSimpArgs false
set_option linter.unusedSectionVars false
set_option linter.unnecessarySimpa false
set_option maxRecDepth 100000
namespace Go.Proofs.YtkbahggepncliaaGreatDoor
open Go Go.Sk
open Go.ChangeShapes Go.WideShapes Go.ChangeAt Go.RowKit
theorem Tryz.own:ownKnob Tryz.prog.godebug=none:=by kernel_rfl
theorem mo:laidOutB Tryz.prog=true:=by kernel_rfl
abbrev nt:List (String×DataW Unit):=[("unicode.White_Space",Rows.laid_unicode_White_Space),("strings.asciiSpace",Rows.laid_strings_asciiSpace),("ceiling/insn.rows",Rows.laid_ceiling_insn_rows)]
theorem rC(os:Os)(args:Array Value):laidMetH Tryz.prog nt ((World.doorLaid Tryz.prog 400 os).forCall (λ_ _=>0) ⟨#[],args,[]⟩).memory:=
 laidMetH_of_parts3 (fuel:=8) (laidMet_of_run' 8 kR kR) kR kR
theorem oJ{W:World}(h:laidMetH Tryz.prog nt W):Gl (aZ W) W:=by
 rw[MakeChecks.laidMetH_plain _ _ _ kR] at h
 obtain⟨ps,⟨g0,t0,cs0,f0,p0,q0,hg0,ht0,hv0,hd0,⟨g1,t1,cs1,f1,p1,q1,hg1,ht1,hv1,hd1,⟨g2,t2,cs2,f2,p2,q2,hg2,ht2,hv2,hd2,_,_⟩,_⟩,_⟩,_,_⟩:=h
 obtain rfl:=inS ((show Tryz.prog.globalNamed "strings.asciiSpace"=some 1 by kernel_rfl).symm.trans hg1)
 obtain rfl:=inS ((show(Tryz.prog.globals[1]?).map (·.type)=some 277 by kernel_rfl).symm.trans ht1)
 have e1:(Rows.laid_strings_asciiSpace:DataW Unit)=(DataW.agg (da.map λn=>DataW.lit (Lit.int .u8 n)):DataW Unit):=by kernel_rfl
 rw[e1] at hd1
 have r1:=oz Tryz.underlying277 Tryz.underlying5 kR kR hg1 hv1 hd1
 obtain rfl:=inS ((show Tryz.prog.globalNamed "ceiling/insn.rows"=some 0 by kernel_rfl).symm.trans hg2)
 obtain rfl:=inS ((show(Tryz.prog.globals[0]?).map (·.type)=some 259 by kernel_rfl).symm.trans ht2)
 have e2:(Rows.laid_ceiling_insn_rows:DataW Unit)=(DataW.agg (lU.map λp=>DataW.agg [DataW.lit (Lit.string p.1.data.toList),DataW.lit (Lit.string p.2.data.toList)]):DataW Unit):=by kernel_rfl
 rw[e2] at hd2
 have r2:=kE Tryz.underlying259 Tryz.underlying224 rfl rfl rfl rfl Tryz.underlying9 kR kR kR hg2 hv2 hd2
 intro g ps hps
 cases g with
 |zero=>
  simp only[gpc,aq] at hps
  subst hps
  exact r2
 |succ g=>
  cases g with
  |zero=>
   simp only[gpc,aq] at hps
   subst hps
   exact r1
  |succ g=>simp[gpc] at hps
theorem ltm{n:Nat}(h:n≤maxLen):n<9223372036854775808:=by simp only[maxLen] at h;omega
structure SzT(t:ao):Prop where
 sz:Sz t
 sa:SzA t
 sn:SzN t
theorem oI{n:Int}(h:IntKind.i64.min≤n∧n≤IntKind.i64.max):I64 n:=by
 have h1:IntKind.i64.min= -9223372036854775808:=by decide
 have h2:IntKind.i64.max=9223372036854775807:=by decide
 unfold I64;omega
theorem cs2:Tryz.prog.cellsOf 2=1:=by kernel_rfl
theorem cs3:Tryz.prog.cellsOf 3=1:=by kernel_rfl
theorem cs4:Tryz.prog.cellsOf 4=1:=by kernel_rfl
theorem cs23:Tryz.prog.cellsOf 23=1:=by kernel_rfl
theorem cs25:Tryz.prog.cellsOf 25=1:=by kernel_rfl
theorem cs27:Tryz.prog.cellsOf 27=4:=by kernel_rfl
theorem cs28:Tryz.prog.cellsOf 28=1:=by kernel_rfl
theorem cs29:Tryz.prog.cellsOf 29=1:=by kernel_rfl
theorem cs30:Tryz.prog.cellsOf 30=1:=by kernel_rfl
theorem cs31:Tryz.prog.cellsOf 31=1:=by kernel_rfl
theorem cs32:Tryz.prog.cellsOf 32=1:=by kernel_rfl
theorem cs33:Tryz.prog.cellsOf 33=1:=by kernel_rfl
theorem cs34:Tryz.prog.cellsOf 34=1:=by kernel_rfl
theorem cs35:Tryz.prog.cellsOf 35=1:=by kernel_rfl
theorem cs36:Tryz.prog.cellsOf 36=1:=by kernel_rfl
theorem cs38:Tryz.prog.cellsOf 38=11:=by kernel_rfl
theorem cs39:Tryz.prog.cellsOf 39=16:=by kernel_rfl
theorem cs41:Tryz.prog.cellsOf 41=19:=by kernel_rfl
theorem cs43:Tryz.prog.cellsOf 43=1:=by kernel_rfl
theorem cs45:Tryz.prog.cellsOf 45=7:=by kernel_rfl
theorem sU:Tryz.prog.cellsOf 96=1:=by kernel_rfl
theorem tB:Tryz.prog.cellsOf 101=5:=by kernel_rfl
theorem tz:Tryz.prog.cellsOf 108=4:=by kernel_rfl
theorem tx:Tryz.prog.cellsOf 140=3:=by kernel_rfl
theorem cs146:Tryz.prog.cellsOf 146=1:=by kernel_rfl
theorem cs153:Tryz.prog.cellsOf 153=1:=by kernel_rfl
theorem tw:Tryz.prog.cellsOf 155=3:=by kernel_rfl
theorem cs156:Tryz.prog.cellsOf 156=1:=by kernel_rfl
theorem tv:Tryz.prog.cellsOf 158=5:=by kernel_rfl
theorem tt:Tryz.prog.cellsOf 162=1:=by kernel_rfl
theorem tr:Tryz.prog.cellsOf 164=2:=by kernel_rfl
theorem tq:Tryz.prog.cellsOf 173=2:=by kernel_rfl
theorem cs177:Tryz.prog.cellsOf 177=1:=by kernel_rfl
theorem rJ:Tryz.prog.cellsOf 179=9:=by kernel_rfl
theorem tp:Tryz.prog.cellsOf 189=3:=by kernel_rfl
theorem cs190:Tryz.prog.cellsOf 190=1:=by kernel_rfl
theorem tn:Tryz.prog.cellsOf 192=2:=by kernel_rfl
theorem el2:∀x,(E2 x).length=1:=λ_=>rfl
theorem el3:∀x,(E3 x).length=1:=λ_=>rfl
theorem el27:∀x,(E27 x).length=4:=λ_=>rfl
theorem el45:∀x,(E45 x).length=7:=λ_=>rfl
theorem el96:∀x,(E96 x).length=1:=λ_=>rfl
theorem el101:∀x,(cL x).length=5:=λ_=>rfl
theorem el108:∀x,(cJ x).length=4:=λ_=>rfl
theorem el140:∀x,(gV x).length=3:=λ_=>rfl
theorem el155:∀x,(iz x).length=3:=λ_=>rfl
theorem el158:∀x,(eA x).length=5:=λ_=>rfl
theorem el164:∀x,(fJ x).length=2:=λ_=>rfl
theorem el173:∀x,(kM x).length=2:=λ_=>rfl
theorem tl:∀x,(dW x).length=9:=λx=>by rw[jz];rfl
theorem el189:∀x,(iV x).length=3:=λ_=>rfl
theorem el192:∀x,(jt x).length=2:=λ_=>rfl
theorem rd2{H:Type}{enc:TypeId×Value→H}{W:World}{spare:Nat→Bool}{held:Bool}(fuel:Nat):Reads enc Tryz.prog W spare held fuel 2 E2 (λn:Int=>IntKind.i64.min≤n∧n≤IntKind.i64.max):=(ai Tryz.underlying2 fuel)
theorem rd3{H:Type}{enc:TypeId×Value→H}{W:World}{spare:Nat→Bool}{held:Bool}(fuel:Nat):Reads enc Tryz.prog W spare held fuel 3 E3 (λn:Int=>IntKind.i64.min≤n∧n≤IntKind.i64.max):=(ai Tryz.underlying3 fuel)
theorem rd96{H:Type}{enc:TypeId×Value→H}{W:World}{spare:Nat→Bool}{held:Bool}(fuel:Nat):Reads enc Tryz.prog W spare held fuel 96 E96 (λL:List Int=>(∀x∈L,(λn:Int=>IntKind.i64.min≤n∧n≤IntKind.i64.max) x)∧L.length≤maxLen):=(aI Tryz.underlying96 cs3 dC el3 λf hf=>rd3 f)
theorem rd45{H:Type}{enc:TypeId×Value→H}{W:World}{spare:Nat→Bool}{held:Bool}(fuel:Nat):Reads enc Tryz.prog W spare held fuel 45 E45 (λx:ak=>(0≤x.op∧x.op≤255)∧I64 x.n):=by
 induction fuel using Nat.strongRecOn with
 |_ fuel ih=>
 cases fuel with
 |zero=>exact Reads.zero
 |succ fuel=>
 refine be Tryz.underlying45 cs45 (λcs hl h=>?_)
 obtain⟨y0,hy0⟩:=h 0 _ rfl
 obtain⟨x0,r0,g0⟩:=(ai Tryz.underlying43 fuel) _ _ hy0
 simp only[cs43] at r0
 obtain⟨y1,hy1⟩:=h 1 _ rfl
 obtain⟨x1,r1,g1⟩:=(ai Tryz.underlying3 fuel) _ _ hy1
 simp only[cs3] at r1
 obtain⟨y2,hy2⟩:=h 2 _ rfl
 obtain⟨x2,r2,g2⟩:=(ai Tryz.underlying3 fuel) _ _ hy2
 simp only[cs3] at r2
 obtain⟨y3,hy3⟩:=h 3 _ rfl
 obtain⟨x3,r3,g3⟩:=(ai Tryz.underlying3 fuel) _ _ hy3
 simp only[cs3] at r3
 obtain⟨y4,hy4⟩:=h 4 _ rfl
 obtain⟨x4,r4,g4⟩:=(ai Tryz.underlying2 fuel) _ _ hy4
 simp only[cs2] at r4
 obtain⟨y5,hy5⟩:=h 5 _ rfl
 obtain⟨x5,r5,g5⟩:=(ai Tryz.underlying2 fuel) _ _ hy5
 simp only[cs2] at r5
 obtain⟨y6,hy6⟩:=h 6 _ rfl
 obtain⟨x6,r6,g6⟩:=(ai Tryz.underlying3 fuel) _ _ hy6
 simp only[cs3] at r6
 exact⟨ak.mk x0 x1 x2 x3 x4 x5 x6,(by exact(ac r0 rfl (ac r1 rfl (ac r2 rfl (ac r3 rfl (ac r4 rfl (ac r5 rfl (ac r6 rfl (bV hl))))))))),⟨⟨g0.1,g0.2⟩,oI g4⟩⟩
theorem rd108{H:Type}{enc:TypeId×Value→H}{W:World}{spare:Nat→Bool}{held:Bool}(fuel:Nat):Reads enc Tryz.prog W spare held fuel 108 cJ (λ_:an=>True):=by
 induction fuel using Nat.strongRecOn with
 |_ fuel ih=>
 cases fuel with
 |zero=>exact Reads.zero
 |succ fuel=>
 refine be Tryz.underlying108 tz (λcs hl h=>?_)
 obtain⟨y0,hy0⟩:=h 0 _ rfl
 obtain⟨x0,r0,g0⟩:=(ai Tryz.underlying3 fuel) _ _ hy0
 simp only[cs3] at r0
 obtain⟨y1,hy1⟩:=h 1 _ rfl
 obtain⟨x1,r1,g1⟩:=(ai Tryz.underlying3 fuel) _ _ hy1
 simp only[cs3] at r1
 obtain⟨y2,hy2⟩:=h 2 _ rfl
 obtain⟨x2,r2,g2⟩:=(ai Tryz.underlying3 fuel) _ _ hy2
 simp only[cs3] at r2
 obtain⟨y3,hy3⟩:=h 3 _ rfl
 obtain⟨x3,r3,g3⟩:=(jO Tryz.underlying4 fuel) _ _ hy3
 simp only[cs4] at r3
 exact⟨an.mk x0 x1 x2 x3,(by exact(ac r0 rfl (ac r1 rfl (ac r2 rfl (ac r3 rfl (bV hl)))))),trivial⟩
theorem rd189{H:Type}{enc:TypeId×Value→H}{W:World}{spare:Nat→Bool}{held:Bool}(fuel:Nat):Reads enc Tryz.prog W spare held fuel 189 iV (λ_:Loop=>True):=by
 induction fuel using Nat.strongRecOn with
 |_ fuel ih=>
 cases fuel with
 |zero=>exact Reads.zero
 |succ fuel=>
 refine be Tryz.underlying189 tp (λcs hl h=>?_)
 obtain⟨y0,hy0⟩:=h 0 _ rfl
 obtain⟨x0,r0,g0⟩:=(ai Tryz.underlying3 fuel) _ _ hy0
 simp only[cs3] at r0
 obtain⟨y1,hy1⟩:=h 1 _ rfl
 obtain⟨x1,r1,g1⟩:=(ai Tryz.underlying3 fuel) _ _ hy1
 simp only[cs3] at r1
 obtain⟨y2,hy2⟩:=h 2 _ rfl
 obtain⟨x2,r2,g2⟩:=(ai Tryz.underlying2 fuel) _ _ hy2
 simp only[cs2] at r2
 exact⟨Loop.mk x0 x1 x2,(by exact(ac r0 rfl (ac r1 rfl (ac r2 rfl (bV hl))))),trivial⟩
theorem rd158{H:Type}{enc:TypeId×Value→H}{W:World}{spare:Nat→Bool}{held:Bool}(fuel:Nat):Reads enc Tryz.prog W spare held fuel 158 eA (λa:kL=>I64 a.entry∧I64 a.time):=by
 induction fuel using Nat.strongRecOn with
 |_ fuel ih=>
 cases fuel with
 |zero=>exact Reads.zero
 |succ fuel=>
 refine be Tryz.underlying158 tv (λcs hl h=>?_)
 obtain⟨y0,hy0⟩:=h 0 _ rfl
 obtain⟨x0,r0,g0⟩:=(ai Tryz.underlying156 fuel) _ _ hy0
 simp only[cs156] at r0
 obtain⟨y1,hy1⟩:=h 1 _ rfl
 obtain⟨x1,r1,g1⟩:=(ai Tryz.underlying3 fuel) _ _ hy1
 simp only[cs3] at r1
 obtain⟨y2,hy2⟩:=h 2 _ rfl
 obtain⟨x2,r2,g2⟩:=(ai Tryz.underlying3 fuel) _ _ hy2
 simp only[cs3] at r2
 obtain⟨y3,hy3⟩:=h 3 _ rfl
 obtain⟨x3,r3,g3⟩:=(ai Tryz.underlying3 fuel) _ _ hy3
 simp only[cs3] at r3
 obtain⟨y4,hy4⟩:=h 4 _ rfl
 obtain⟨x4,r4,g4⟩:=(ai Tryz.underlying3 fuel) _ _ hy4
 simp only[cs3] at r4
 exact⟨kL.mk x0 x1 x2 x3 x4,(by exact(ac r0 rfl (ac r1 rfl (ac r2 rfl (ac r3 rfl (ac r4 rfl (bV hl))))))),⟨oI g1,oI g3⟩⟩
theorem rd155{H:Type}{enc:TypeId×Value→H}{W:World}{spare:Nat→Bool}{held:Bool}(fuel:Nat):Reads enc Tryz.prog W spare held fuel 155 iz (λx:cY=>∀a∈x.alts,I64 a.entry∧I64 a.time):=by
 induction fuel using Nat.strongRecOn with
 |_ fuel ih=>
 cases fuel with
 |zero=>exact Reads.zero
 |succ fuel=>
 refine be Tryz.underlying155 tw (λcs hl h=>?_)
 obtain⟨y0,hy0⟩:=h 0 _ rfl
 obtain⟨x0,r0,g0⟩:=(aI Tryz.underlying153 tv dC el158 λf hf=>rd158 f) _ _ hy0
 simp only[cs153] at r0
 obtain⟨y1,hy1⟩:=h 1 _ rfl
 obtain⟨x1,r1,g1⟩:=(ai Tryz.underlying3 fuel) _ _ hy1
 simp only[cs3] at r1
 obtain⟨y2,hy2⟩:=h 2 _ rfl
 obtain⟨x2,r2,g2⟩:=(ai Tryz.underlying3 fuel) _ _ hy2
 simp only[cs3] at r2
 exact⟨cY.mk x0 x1 x2,(by exact(ac r0 rfl (ac r1 rfl (ac r2 rfl (bV hl))))),g0.1⟩
theorem rd101{H:Type}{enc:TypeId×Value→H}{W:World}{spare:Nat→Bool}{held:Bool}(fuel:Nat):Reads enc Tryz.prog W spare held fuel 101 cL (λx:Obj=>x.set_.length<9223372036854775808∧I64 x.lo):=by
 induction fuel using Nat.strongRecOn with
 |_ fuel ih=>
 cases fuel with
 |zero=>exact Reads.zero
 |succ fuel=>
 refine be Tryz.underlying101 tB (λcs hl h=>?_)
 obtain⟨y0,hy0⟩:=h 0 _ rfl
 obtain⟨x0,r0,g0⟩:=(ai Tryz.underlying3 fuel) _ _ hy0
 simp only[cs3] at r0
 obtain⟨y1,hy1⟩:=h 1 _ rfl
 obtain⟨x1,r1,g1⟩:=(ai Tryz.underlying2 fuel) _ _ hy1
 simp only[cs2] at r1
 obtain⟨y2,hy2⟩:=h 2 _ rfl
 obtain⟨x2,r2,g2⟩:=(ai Tryz.underlying2 fuel) _ _ hy2
 simp only[cs2] at r2
 obtain⟨y3,hy3⟩:=h 3 _ rfl
 obtain⟨x3,r3,g3⟩:=(jO Tryz.underlying4 fuel) _ _ hy3
 simp only[cs4] at r3
 obtain⟨y4,hy4⟩:=h 4 _ rfl
 obtain⟨x4,r4,g4⟩:=(aI Tryz.underlying96 cs3 dC el3 λf hf=>rd3 f) _ _ hy4
 simp only[sU] at r4
 exact⟨Obj.mk x0 x1 x2 x3 x4,(by exact(ac r0 rfl (ac r1 rfl (ac r2 rfl (ac r3 rfl (ac r4 rfl (bV hl))))))),⟨ltm g4.2,oI g1⟩⟩
theorem rd140{H:Type}{enc:TypeId×Value→H}{W:World}{spare:Nat→Bool}{held:Bool}(fuel:Nat):Reads enc Tryz.prog W spare held fuel 140 gV (λx:eO=>I64 x.v):=by
 induction fuel using Nat.strongRecOn with
 |_ fuel ih=>
 cases fuel with
 |zero=>exact Reads.zero
 |succ fuel=>
 refine be Tryz.underlying140 tx (λcs hl h=>?_)
 obtain⟨y0,hy0⟩:=h 0 _ rfl
 obtain⟨x0,r0,g0⟩:=(ai Tryz.underlying3 fuel) _ _ hy0
 simp only[cs3] at r0
 obtain⟨y1,hy1⟩:=h 1 _ rfl
 obtain⟨x1,r1,g1⟩:=(ai Tryz.underlying3 fuel) _ _ hy1
 simp only[cs3] at r1
 obtain⟨y2,hy2⟩:=h 2 _ rfl
 obtain⟨x2,r2,g2⟩:=(ai Tryz.underlying2 fuel) _ _ hy2
 simp only[cs2] at r2
 exact⟨eO.mk x0 x1 x2,(by exact(ac r0 rfl (ac r1 rfl (ac r2 rfl (bV hl))))),oI g2⟩
theorem rd173{H:Type}{enc:TypeId×Value→H}{W:World}{spare:Nat→Bool}{held:Bool}(fuel:Nat):Reads enc Tryz.prog W spare held fuel 173 kM (λ_:bS=>True):=by
 induction fuel using Nat.strongRecOn with
 |_ fuel ih=>
 cases fuel with
 |zero=>exact Reads.zero
 |succ fuel=>
 refine be Tryz.underlying173 tq (λcs hl h=>?_)
 obtain⟨y0,hy0⟩:=h 0 _ rfl
 obtain⟨x0,r0,g0⟩:=(aI Tryz.underlying96 cs3 dC el3 λf hf=>rd3 f) _ _ hy0
 simp only[sU] at r0
 obtain⟨y1,hy1⟩:=h 1 _ rfl
 obtain⟨x1,r1,g1⟩:=(aI Tryz.underlying96 cs3 dC el3 λf hf=>rd3 f) _ _ hy1
 simp only[sU] at r1
 exact⟨bS.mk x0 x1,(by exact(ac r0 rfl (ac r1 rfl (bV hl)))),trivial⟩
theorem rd27{H:Type}{enc:TypeId×Value→H}{W:World}{spare:Nat→Bool}{held:Bool}(fuel:Nat):Reads enc Tryz.prog W spare held fuel 27 E27 (λ_:dZ=>True):=by
 induction fuel using Nat.strongRecOn with
 |_ fuel ih=>
 cases fuel with
 |zero=>exact Reads.zero
 |succ fuel=>
 refine be Tryz.underlying27 cs27 (λcs hl h=>?_)
 obtain⟨y0,hy0⟩:=h 0 _ rfl
 obtain⟨x0,r0,g0⟩:=(ai Tryz.underlying3 fuel) _ _ hy0
 simp only[cs3] at r0
 obtain⟨y1,hy1⟩:=h 1 _ rfl
 obtain⟨x1,r1,g1⟩:=(ai Tryz.underlying3 fuel) _ _ hy1
 simp only[cs3] at r1
 obtain⟨y2,hy2⟩:=h 2 _ rfl
 obtain⟨x2,r2,g2⟩:=(aI Tryz.underlying25 tq dC el173 λf hf=>rd173 f) _ _ hy2
 simp only[cs25] at r2
 obtain⟨y3,hy3⟩:=h 3 _ rfl
 obtain⟨x3,r3,g3⟩:=(ai Tryz.underlying2 fuel) _ _ hy3
 simp only[cs2] at r3
 exact⟨dZ.mk x0 x1 x2 x3,(by exact(ac r0 rfl (ac r1 rfl (ac r2 rfl (ac r3 rfl (bV hl)))))),trivial⟩
theorem rd179{H:Type}{enc:TypeId×Value→H}{W:World}{spare:Nat→Bool}{held:Bool}(fuel:Nat):Reads enc Tryz.prog W spare held fuel 179 dW (λ_:bv=>True):=by
 induction fuel using Nat.strongRecOn with
 |_ fuel ih=>
 cases fuel with
 |zero=>exact Reads.zero
 |succ fuel=>
 refine be Tryz.underlying179 rJ (λcs hl h=>?_)
 obtain⟨y0,hy0⟩:=h 0 _ rfl
 obtain⟨x0,r0,g0⟩:=(ai Tryz.underlying177 fuel) _ _ hy0
 simp only[cs177] at r0
 obtain⟨y1,hy1⟩:=h 1 _ rfl
 obtain⟨x1,r1,g1⟩:=(ai Tryz.underlying146 fuel) _ _ hy1
 simp only[cs146] at r1
 obtain⟨y2,hy2⟩:=h 2 _ rfl
 obtain⟨x2,r2,g2⟩:=(ai Tryz.underlying2 fuel) _ _ hy2
 simp only[cs2] at r2
 obtain⟨y3,hy3⟩:=h 3 _ rfl
 obtain⟨x3,r3,g3⟩:=(ai Tryz.underlying3 fuel) _ _ hy3
 simp only[cs3] at r3
 obtain⟨y4,hy4⟩:=h 4 _ rfl
 obtain⟨x4,r4,g4⟩:=(ai Tryz.underlying3 fuel) _ _ hy4
 simp only[cs3] at r4
 obtain⟨y5,hy5⟩:=h 5 _ rfl
 obtain⟨x5,r5,g5⟩:=(ai Tryz.underlying3 fuel) _ _ hy5
 simp only[cs3] at r5
 obtain⟨y6,hy6⟩:=h 6 _ rfl
 obtain⟨x6,r6,g6⟩:=(ai Tryz.underlying2 fuel) _ _ hy6
 simp only[cs2] at r6
 obtain⟨y7,hy7⟩:=h 7 _ rfl
 obtain⟨x7,r7,g7⟩:=(ai Tryz.underlying2 fuel) _ _ hy7
 simp only[cs2] at r7
 obtain⟨y8,hy8⟩:=h 8 _ rfl
 obtain⟨x8,r8,g8⟩:=(aI Tryz.underlying162 rJ dC tl λf hf=>ih f oM) _ _ hy8
 simp only[tt] at r8
 exact⟨bv.mk x0 x1 x2 x3 x4 x5 x6 x7 x8,(by rw[jz];exact(ac r0 rfl (ac r1 rfl (ac r2 rfl (ac r3 rfl (ac r4 rfl (ac r5 rfl (ac r6 rfl (ac r7 rfl (ac r8 rfl (bV hl))))))))))),trivial⟩
theorem rd164{H:Type}{enc:TypeId×Value→H}{W:World}{spare:Nat→Bool}{held:Bool}(fuel:Nat):Reads enc Tryz.prog W spare held fuel 164 fJ (λ_:dH=>True):=by
 induction fuel using Nat.strongRecOn with
 |_ fuel ih=>
 cases fuel with
 |zero=>exact Reads.zero
 |succ fuel=>
 refine be Tryz.underlying164 tr (λcs hl h=>?_)
 obtain⟨y0,hy0⟩:=h 0 _ rfl
 obtain⟨x0,r0,g0⟩:=(ai Tryz.underlying3 fuel) _ _ hy0
 simp only[cs3] at r0
 obtain⟨y1,hy1⟩:=h 1 _ rfl
 obtain⟨x1,r1,g1⟩:=(aI Tryz.underlying162 rJ dC tl λf hf=>rd179 f) _ _ hy1
 simp only[tt] at r1
 exact⟨dH.mk x0 x1,(by exact(ac r0 rfl (ac r1 rfl (bV hl)))),trivial⟩
theorem rd192{H:Type}{enc:TypeId×Value→H}{W:World}{spare:Nat→Bool}{held:Bool}(fuel:Nat):Reads enc Tryz.prog W spare held fuel 192 jt (λ_:eZ=>True):=by
 induction fuel using Nat.strongRecOn with
 |_ fuel ih=>
 cases fuel with
 |zero=>exact Reads.zero
 |succ fuel=>
 refine be Tryz.underlying192 tn (λcs hl h=>?_)
 obtain⟨y0,hy0⟩:=h 0 _ rfl
 obtain⟨x0,r0,g0⟩:=(ai Tryz.underlying3 fuel) _ _ hy0
 simp only[cs3] at r0
 obtain⟨y1,hy1⟩:=h 1 _ rfl
 obtain⟨x1,r1,g1⟩:=(ai Tryz.underlying190 fuel) _ _ hy1
 simp only[cs190] at r1
 exact⟨eZ.mk x0 x1,(by exact(ac r0 rfl (ac r1 rfl (bV hl)))),trivial⟩
theorem rd38{H:Type}{enc:TypeId×Value→H}{W:World}{spare:Nat→Bool}{held:Bool}(fuel:Nat):Reads enc Tryz.prog W spare held fuel 38 E38 SzT:=by
 induction fuel using Nat.strongRecOn with
 |_ fuel ih=>
 cases fuel with
 |zero=>exact Reads.zero
 |succ fuel=>
 refine be Tryz.underlying38 cs38 (λcs hl h=>?_)
 obtain⟨y0,hy0⟩:=h 0 _ rfl
 obtain⟨x0,r0,g0⟩:=(aI Tryz.underlying23 cs45 dC el45 λf hf=>rd45 f) _ _ hy0
 simp only[cs23] at r0
 obtain⟨y1,hy1⟩:=h 1 _ rfl
 obtain⟨x1,r1,g1⟩:=(aI Tryz.underlying29 tz dC el108 λf hf=>rd108 f) _ _ hy1
 simp only[cs29] at r1
 obtain⟨y2,hy2⟩:=h 2 _ rfl
 obtain⟨x2,r2,g2⟩:=(aI Tryz.underlying30 tp dC el189 λf hf=>rd189 f) _ _ hy2
 simp only[cs30] at r2
 obtain⟨y3,hy3⟩:=h 3 _ rfl
 obtain⟨x3,r3,g3⟩:=(aI Tryz.underlying31 tw dC el155 λf hf=>rd155 f) _ _ hy3
 simp only[cs31] at r3
 obtain⟨y4,hy4⟩:=h 4 _ rfl
 obtain⟨x4,r4,g4⟩:=(aI Tryz.underlying32 sU dC el96 λf hf=>rd96 f) _ _ hy4
 simp only[cs32] at r4
 obtain⟨y5,hy5⟩:=h 5 _ rfl
 obtain⟨x5,r5,g5⟩:=(aI Tryz.underlying33 tB dC el101 λf hf=>rd101 f) _ _ hy5
 simp only[cs33] at r5
 obtain⟨y6,hy6⟩:=h 6 _ rfl
 obtain⟨x6,r6,g6⟩:=(aI Tryz.underlying34 tx dC el140 λf hf=>rd140 f) _ _ hy6
 simp only[cs34] at r6
 obtain⟨y7,hy7⟩:=h 7 _ rfl
 obtain⟨x7,r7,g7⟩:=(ai Tryz.underlying3 fuel) _ _ hy7
 simp only[cs3] at r7
 obtain⟨y8,hy8⟩:=h 8 _ rfl
 obtain⟨x8,r8,g8⟩:=(aI Tryz.underlying28 cs27 dC el27 λf hf=>rd27 f) _ _ hy8
 simp only[cs28] at r8
 obtain⟨y9,hy9⟩:=h 9 _ rfl
 obtain⟨x9,r9,g9⟩:=(aI Tryz.underlying35 tr dC el164 λf hf=>rd164 f) _ _ hy9
 simp only[cs35] at r9
 obtain⟨y10,hy10⟩:=h 10 _ rfl
 obtain⟨x10,r10,g10⟩:=(aI Tryz.underlying36 tn dC el192 λf hf=>rd192 f) _ _ hy10
 simp only[cs36] at r10
 exact⟨ao.mk x0 x1 x2 x3 x4 x5 x6 x7 x8 x9 x10,(by exact(ac r0 rfl (ac r1 rfl (ac r2 rfl (ac r3 rfl (ac r4 rfl (ac r5 rfl (ac r6 rfl (ac r7 rfl (ac r8 rfl (ac r9 rfl (ac r10 rfl (bV hl))))))))))))),⟨⟨λx hx=>(g0.1 x hx).1,ltm g6.2,λx hx=>(g5.1 x hx).1,λl hl=>ltm (g4.1 l hl).2,ltm g9.2,ltm g10.2⟩,⟨g3.1⟩,⟨λx hx=>(g0.1 x hx).2,λx hx=>(g5.1 x hx).2,g6.1⟩⟩⟩
theorem rd39{H:Type}{enc:TypeId×Value→H}{W:World}{spare:Nat→Bool}{held:Bool}:∀fuel:Nat,Reads enc Tryz.prog W spare held fuel 39 E39 (λF:Nat→Int=>∀j,(λn:Int=>IntKind.i64.min≤n∧n≤IntKind.i64.max) (F j))
 |0=>Reads.zero
 |fuel+1=>oD (EA:=λn:Int=> .i .i64 n) 0 dC Tryz.underlying39 cs2 cs39 (ai Tryz.underlying2 fuel)
theorem rd41{H:Type}{enc:TypeId×Value→H}{W:World}{spare:Nat→Bool}{held:Bool}(fuel:Nat):Reads enc Tryz.prog W spare held fuel 41 E41 (λr:bj=>RI r.r):=by
 induction fuel using Nat.strongRecOn with
 |_ fuel ih=>
 cases fuel with
 |zero=>exact Reads.zero
 |succ fuel=>
 refine be Tryz.underlying41 cs41 (λcs hl h=>?_)
 obtain⟨y0,hy0⟩:=h 0 _ rfl
 obtain⟨x0,r0,g0⟩:=(rd39 fuel) _ _ hy0
 change RFs _ _ _ (List.take (Tryz.prog.cellsOf 39) (List.drop 0 cs)) at r0
 rw[cs39] at r0
 obtain⟨y1,hy1⟩:=h 1 _ rfl
 obtain⟨x1,r1,g1⟩:=(ai Tryz.underlying3 fuel) _ _ hy1
 simp only[cs3] at r1
 obtain⟨y2,hy2⟩:=h 2 _ rfl
 obtain⟨x2,r2,g2⟩:=(ai Tryz.underlying2 fuel) _ _ hy2
 simp only[cs2] at r2
 obtain⟨y3,hy3⟩:=h 3 _ rfl
 obtain⟨x3,r3,g3⟩:=(ai Tryz.underlying3 fuel) _ _ hy3
 simp only[cs3] at r3
 exact⟨bj.mk x0 x1 x2 x3,(by exact(ac r0 rfl (ac r1 rfl (ac r2 rfl (ac r3 rfl (bV hl)))))),λj=>oI (g0 j)⟩
end Go.Proofs.YtkbahggepncliaaGreatDoor
