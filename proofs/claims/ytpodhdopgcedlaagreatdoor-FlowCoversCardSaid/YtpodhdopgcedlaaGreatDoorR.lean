/- What the arguments of the walks of texts read asz; what is laid. -/
import Derived.Test.YtpodhdopgcedlaaGreatDoorRows
import Derived.Test.YtpodhdopgcedlaaGreatDoorX
import Derived.Test.YtpodhdopgcedlaaGreatDoorLb
set_option linter.unusedVariables false
set_option linter.unusedSimpArgs false
set_option linter.unusedSectionVars false
set_option linter.unnecessarySimpa false
set_option maxRecDepth 100000
namespace Go.Proofs.YtpodhdopgcedlaaGreatDoor
open Go Go.Sk
open Go.ChangeShapes Go.WideShapes Go.ChangeAt Go.RowKit
theorem Tryz.own:ownKnob Tryz.prog.godebug=none:=by kernel_rfl
theorem oJ:laidOutB Tryz.prog=true:=by kernel_rfl
abbrev pF:List (String×DataW Unit):=[("unicode.White_Space",Rows.laid_unicode_White_Space),("strings.asciiSpace",Rows.laid_strings_asciiSpace),("ceiling/insn.rows",Rows.laid_ceiling_insn_rows)]
theorem vx(os:Os)(args:Array Value):laidMetH Tryz.prog pF ((World.doorLaid Tryz.prog 400 os).forCall (λ_ _=>0) ⟨#[],args,[]⟩).memory:=
 laidMetH_of_parts3 (fuel:=8) (laidMet_of_run' 8 kR kR) kR kR
theorem qY{W:World}(h:laidMetH Tryz.prog pF W):Gl (aU W) W:=by
 rw[MakeChecks.laidMetH_plain _ _ _ kR] at h
 obtain⟨ps,⟨g0,t0,cs0,f0,p0,q0,hg0,ht0,hv0,hd0,⟨g1,t1,cs1,f1,p1,q1,hg1,ht1,hv1,hd1,⟨g2,t2,cs2,f2,p2,q2,hg2,ht2,hv2,hd2,_,_⟩,_⟩,_⟩,_,_⟩:=h
 obtain rfl:=inS ((show Tryz.prog.globalNamed "strings.asciiSpace"=some 1 by kernel_rfl).symm.trans hg1)
 obtain rfl:=inS ((show(Tryz.prog.globals[1]?).map (·.type)=some 237 by kernel_rfl).symm.trans ht1)
 have e1:(Rows.laid_strings_asciiSpace:DataW Unit)=(DataW.agg (dt.map λn=>DataW.lit (Lit.int .u8 n)):DataW Unit):=by kernel_rfl
 rw[e1] at hd1
 have r1:=qC Tryz.underlying237 Tryz.underlying5 kR kR hg1 hv1 hd1
 obtain rfl:=inS ((show Tryz.prog.globalNamed "ceiling/insn.rows"=some 0 by kernel_rfl).symm.trans hg2)
 obtain rfl:=inS ((show(Tryz.prog.globals[0]?).map (·.type)=some 225 by kernel_rfl).symm.trans ht2)
 have e2:(Rows.laid_ceiling_insn_rows:DataW Unit)=(DataW.agg (n5.map λp=>DataW.agg [DataW.lit (Lit.string p.1.data.toList),DataW.lit (Lit.string p.2.data.toList)]):DataW Unit):=by kernel_rfl
 rw[e2] at hd2
 have r2:=mO Tryz.underlying225 Tryz.underlying204 rfl rfl rfl rfl Tryz.underlying9 kR kR kR hg2 hv2 hd2
 intro g ps hps
 cases g with
 |zero=>
  simp only[gpc,am] at hps
  subst hps
  exact r2
 |succ g=>
  cases g with
  |zero=>
   simp only[gpc,am] at hps
   subst hps
   exact r1
  |succ g=>simp[gpc] at hps
theorem ltm{n:Nat}(h:n≤maxLen):n<9223372036854775808:=by simp only[maxLen] at h;omega
def I64(n:Int):Prop:= -9223372036854775808≤n∧n≤9223372036854775807
structure SzT(t:ah):Prop where
 sz:Sz t
 sa:SzA t
theorem uZ{n:Int}(h:IntKind.i64.min≤n∧n≤IntKind.i64.max):I64 n:=by
 have h1:IntKind.i64.min= -9223372036854775808:=by decide
 have h2:IntKind.i64.max=9223372036854775807:=by decide
 unfold I64;omega
theorem cs2:Tryz.prog.cellsOf 2=1:=by kernel_rfl
theorem cs3:Tryz.prog.cellsOf 3=1:=by kernel_rfl
theorem cs4:Tryz.prog.cellsOf 4=1:=by kernel_rfl
theorem cs22:Tryz.prog.cellsOf 22=1:=by kernel_rfl
theorem cs23:Tryz.prog.cellsOf 23=1:=by kernel_rfl
theorem cs24:Tryz.prog.cellsOf 24=1:=by kernel_rfl
theorem cs25:Tryz.prog.cellsOf 25=1:=by kernel_rfl
theorem cs26:Tryz.prog.cellsOf 26=1:=by kernel_rfl
theorem cs27:Tryz.prog.cellsOf 27=1:=by kernel_rfl
theorem cs28:Tryz.prog.cellsOf 28=1:=by kernel_rfl
theorem cs29:Tryz.prog.cellsOf 29=1:=by kernel_rfl
theorem cs30:Tryz.prog.cellsOf 30=1:=by kernel_rfl
theorem cs31:Tryz.prog.cellsOf 31=1:=by kernel_rfl
theorem cs33:Tryz.prog.cellsOf 33=11:=by kernel_rfl
theorem xI:Tryz.prog.cellsOf 43=1:=by kernel_rfl
theorem cs62:Tryz.prog.cellsOf 62=1:=by kernel_rfl
theorem cs64:Tryz.prog.cellsOf 64=7:=by kernel_rfl
theorem cs65:Tryz.prog.cellsOf 65=1:=by kernel_rfl
theorem cs67:Tryz.prog.cellsOf 67=4:=by kernel_rfl
theorem cs99:Tryz.prog.cellsOf 99=1:=by kernel_rfl
theorem yF:Tryz.prog.cellsOf 101=3:=by kernel_rfl
theorem cs102:Tryz.prog.cellsOf 102=1:=by kernel_rfl
theorem yE:Tryz.prog.cellsOf 104=5:=by kernel_rfl
theorem yD:Tryz.prog.cellsOf 119=5:=by kernel_rfl
theorem yC:Tryz.prog.cellsOf 121=3:=by kernel_rfl
theorem yB:Tryz.prog.cellsOf 126=2:=by kernel_rfl
theorem yA:Tryz.prog.cellsOf 127=1:=by kernel_rfl
theorem yz:Tryz.prog.cellsOf 129=2:=by kernel_rfl
theorem cs131:Tryz.prog.cellsOf 131=1:=by kernel_rfl
theorem cs132:Tryz.prog.cellsOf 132=1:=by kernel_rfl
theorem vH:Tryz.prog.cellsOf 134=9:=by kernel_rfl
theorem cs135:Tryz.prog.cellsOf 135=1:=by kernel_rfl
theorem yy:Tryz.prog.cellsOf 137=2:=by kernel_rfl
theorem yx:Tryz.prog.cellsOf 140=4:=by kernel_rfl
theorem yw:Tryz.prog.cellsOf 142=3:=by kernel_rfl
theorem el3:∀x,(E3 x).length=1:=λ_=>rfl
theorem el43:∀x,(E43 x).length=1:=λ_=>rfl
theorem el64:∀x,(E64 x).length=7:=λ_=>rfl
theorem el67:∀x,(E67 x).length=4:=λ_=>rfl
theorem el101:∀x,(dl x).length=3:=λ_=>rfl
theorem el104:∀x,(d4 x).length=5:=λ_=>rfl
theorem el119:∀x,(cN x).length=5:=λ_=>rfl
theorem el121:∀x,(dI x).length=3:=λ_=>rfl
theorem el126:∀x,(jt x).length=2:=λ_=>rfl
theorem el129:∀x,(cM x).length=2:=λ_=>rfl
theorem yt:∀x,(dh x).length=9:=λx=>by rw[iy];rfl
theorem el137:∀x,(d2 x).length=2:=λ_=>rfl
theorem el140:∀x,(cB x).length=4:=λ_=>rfl
theorem el142:∀x,(dA x).length=3:=λ_=>rfl
theorem rd3{H:Type}{enc:TypeId×Value→H}{W:World}{spare:Nat→Bool}{held:Bool}(fuel:Nat):Reads enc Tryz.prog W spare held fuel 3 E3 (λn:Int=>IntKind.i64.min≤n∧n≤IntKind.i64.max):=(ax Tryz.underlying3 fuel)
theorem rd43{H:Type}{enc:TypeId×Value→H}{W:World}{spare:Nat→Bool}{held:Bool}(fuel:Nat):Reads enc Tryz.prog W spare held fuel 43 E43 (λL:List Int=>(∀x∈L,(λn:Int=>IntKind.i64.min≤n∧n≤IntKind.i64.max) x)∧L.length≤maxLen):=(aV Tryz.underlying43 cs3 dC el3 λf hf=>rd3 f)
theorem rd64{H:Type}{enc:TypeId×Value→H}{W:World}{spare:Nat→Bool}{held:Bool}(fuel:Nat):Reads enc Tryz.prog W spare held fuel 64 E64 (λx:aR=>(0≤x.op∧x.op≤255)∧I64 x.n):=by
 induction fuel using Nat.strongRecOn with
 |_ fuel ih=>
 cases fuel with
 |zero=>exact Reads.zero
 |succ fuel=>
 refine bn Tryz.underlying64 cs64 (λcs hl h=>?_)
 obtain⟨y0,hy0⟩:=h 0 _ rfl
 obtain⟨x0,r0,g0⟩:=(ax Tryz.underlying62 fuel) _ _ hy0
 simp only[cs62] at r0
 obtain⟨y1,hy1⟩:=h 1 _ rfl
 obtain⟨x1,r1,g1⟩:=(ax Tryz.underlying3 fuel) _ _ hy1
 simp only[cs3] at r1
 obtain⟨y2,hy2⟩:=h 2 _ rfl
 obtain⟨x2,r2,g2⟩:=(ax Tryz.underlying3 fuel) _ _ hy2
 simp only[cs3] at r2
 obtain⟨y3,hy3⟩:=h 3 _ rfl
 obtain⟨x3,r3,g3⟩:=(ax Tryz.underlying3 fuel) _ _ hy3
 simp only[cs3] at r3
 obtain⟨y4,hy4⟩:=h 4 _ rfl
 obtain⟨x4,r4,g4⟩:=(ax Tryz.underlying2 fuel) _ _ hy4
 simp only[cs2] at r4
 obtain⟨y5,hy5⟩:=h 5 _ rfl
 obtain⟨x5,r5,g5⟩:=(ax Tryz.underlying2 fuel) _ _ hy5
 simp only[cs2] at r5
 obtain⟨y6,hy6⟩:=h 6 _ rfl
 obtain⟨x6,r6,g6⟩:=(ax Tryz.underlying3 fuel) _ _ hy6
 simp only[cs3] at r6
 exact⟨aR.mk x0 x1 x2 x3 x4 x5 x6,(by exact(ao r0 rfl (ao r1 rfl (ao r2 rfl (ao r3 rfl (ao r4 rfl (ao r5 rfl (ao r6 rfl (cx hl))))))))),⟨⟨g0.1,g0.2⟩,uZ g4⟩⟩
theorem rd140{H:Type}{enc:TypeId×Value→H}{W:World}{spare:Nat→Bool}{held:Bool}(fuel:Nat):Reads enc Tryz.prog W spare held fuel 140 cB (λ_:aQ=>True):=by
 induction fuel using Nat.strongRecOn with
 |_ fuel ih=>
 cases fuel with
 |zero=>exact Reads.zero
 |succ fuel=>
 refine bn Tryz.underlying140 yx (λcs hl h=>?_)
 obtain⟨y0,hy0⟩:=h 0 _ rfl
 obtain⟨x0,r0,g0⟩:=(ax Tryz.underlying3 fuel) _ _ hy0
 simp only[cs3] at r0
 obtain⟨y1,hy1⟩:=h 1 _ rfl
 obtain⟨x1,r1,g1⟩:=(ax Tryz.underlying3 fuel) _ _ hy1
 simp only[cs3] at r1
 obtain⟨y2,hy2⟩:=h 2 _ rfl
 obtain⟨x2,r2,g2⟩:=(ax Tryz.underlying3 fuel) _ _ hy2
 simp only[cs3] at r2
 obtain⟨y3,hy3⟩:=h 3 _ rfl
 obtain⟨x3,r3,g3⟩:=(l7 Tryz.underlying4 fuel) _ _ hy3
 simp only[cs4] at r3
 exact⟨aQ.mk x0 x1 x2 x3,(by exact(ao r0 rfl (ao r1 rfl (ao r2 rfl (ao r3 rfl (cx hl)))))),trivial⟩
theorem rd142{H:Type}{enc:TypeId×Value→H}{W:World}{spare:Nat→Bool}{held:Bool}(fuel:Nat):Reads enc Tryz.prog W spare held fuel 142 dA (λ_:Loop=>True):=by
 induction fuel using Nat.strongRecOn with
 |_ fuel ih=>
 cases fuel with
 |zero=>exact Reads.zero
 |succ fuel=>
 refine bn Tryz.underlying142 yw (λcs hl h=>?_)
 obtain⟨y0,hy0⟩:=h 0 _ rfl
 obtain⟨x0,r0,g0⟩:=(ax Tryz.underlying3 fuel) _ _ hy0
 simp only[cs3] at r0
 obtain⟨y1,hy1⟩:=h 1 _ rfl
 obtain⟨x1,r1,g1⟩:=(ax Tryz.underlying3 fuel) _ _ hy1
 simp only[cs3] at r1
 obtain⟨y2,hy2⟩:=h 2 _ rfl
 obtain⟨x2,r2,g2⟩:=(ax Tryz.underlying2 fuel) _ _ hy2
 simp only[cs2] at r2
 exact⟨Loop.mk x0 x1 x2,(by exact(ao r0 rfl (ao r1 rfl (ao r2 rfl (cx hl))))),trivial⟩
theorem rd104{H:Type}{enc:TypeId×Value→H}{W:World}{spare:Nat→Bool}{held:Bool}(fuel:Nat):Reads enc Tryz.prog W spare held fuel 104 d4 (λa:jq=>I64 a.entry∧I64 a.time):=by
 induction fuel using Nat.strongRecOn with
 |_ fuel ih=>
 cases fuel with
 |zero=>exact Reads.zero
 |succ fuel=>
 refine bn Tryz.underlying104 yE (λcs hl h=>?_)
 obtain⟨y0,hy0⟩:=h 0 _ rfl
 obtain⟨x0,r0,g0⟩:=(ax Tryz.underlying102 fuel) _ _ hy0
 simp only[cs102] at r0
 obtain⟨y1,hy1⟩:=h 1 _ rfl
 obtain⟨x1,r1,g1⟩:=(ax Tryz.underlying3 fuel) _ _ hy1
 simp only[cs3] at r1
 obtain⟨y2,hy2⟩:=h 2 _ rfl
 obtain⟨x2,r2,g2⟩:=(ax Tryz.underlying3 fuel) _ _ hy2
 simp only[cs3] at r2
 obtain⟨y3,hy3⟩:=h 3 _ rfl
 obtain⟨x3,r3,g3⟩:=(ax Tryz.underlying3 fuel) _ _ hy3
 simp only[cs3] at r3
 obtain⟨y4,hy4⟩:=h 4 _ rfl
 obtain⟨x4,r4,g4⟩:=(ax Tryz.underlying3 fuel) _ _ hy4
 simp only[cs3] at r4
 exact⟨jq.mk x0 x1 x2 x3 x4,(by exact(ao r0 rfl (ao r1 rfl (ao r2 rfl (ao r3 rfl (ao r4 rfl (cx hl))))))),⟨uZ g1,uZ g3⟩⟩
theorem rd101{H:Type}{enc:TypeId×Value→H}{W:World}{spare:Nat→Bool}{held:Bool}(fuel:Nat):Reads enc Tryz.prog W spare held fuel 101 dl (λx:cg=>∀a∈x.alts,I64 a.entry∧I64 a.time):=by
 induction fuel using Nat.strongRecOn with
 |_ fuel ih=>
 cases fuel with
 |zero=>exact Reads.zero
 |succ fuel=>
 refine bn Tryz.underlying101 yF (λcs hl h=>?_)
 obtain⟨y0,hy0⟩:=h 0 _ rfl
 obtain⟨x0,r0,g0⟩:=(aV Tryz.underlying99 yE dC el104 λf hf=>rd104 f) _ _ hy0
 simp only[cs99] at r0
 obtain⟨y1,hy1⟩:=h 1 _ rfl
 obtain⟨x1,r1,g1⟩:=(ax Tryz.underlying3 fuel) _ _ hy1
 simp only[cs3] at r1
 obtain⟨y2,hy2⟩:=h 2 _ rfl
 obtain⟨x2,r2,g2⟩:=(ax Tryz.underlying3 fuel) _ _ hy2
 simp only[cs3] at r2
 exact⟨cg.mk x0 x1 x2,(by exact(ao r0 rfl (ao r1 rfl (ao r2 rfl (cx hl))))),g0.1⟩
theorem rd119{H:Type}{enc:TypeId×Value→H}{W:World}{spare:Nat→Bool}{held:Bool}(fuel:Nat):Reads enc Tryz.prog W spare held fuel 119 cN (λx:Obj=>x.set_.length<9223372036854775808∧I64 x.lo):=by
 induction fuel using Nat.strongRecOn with
 |_ fuel ih=>
 cases fuel with
 |zero=>exact Reads.zero
 |succ fuel=>
 refine bn Tryz.underlying119 yD (λcs hl h=>?_)
 obtain⟨y0,hy0⟩:=h 0 _ rfl
 obtain⟨x0,r0,g0⟩:=(ax Tryz.underlying3 fuel) _ _ hy0
 simp only[cs3] at r0
 obtain⟨y1,hy1⟩:=h 1 _ rfl
 obtain⟨x1,r1,g1⟩:=(ax Tryz.underlying2 fuel) _ _ hy1
 simp only[cs2] at r1
 obtain⟨y2,hy2⟩:=h 2 _ rfl
 obtain⟨x2,r2,g2⟩:=(ax Tryz.underlying2 fuel) _ _ hy2
 simp only[cs2] at r2
 obtain⟨y3,hy3⟩:=h 3 _ rfl
 obtain⟨x3,r3,g3⟩:=(l7 Tryz.underlying4 fuel) _ _ hy3
 simp only[cs4] at r3
 obtain⟨y4,hy4⟩:=h 4 _ rfl
 obtain⟨x4,r4,g4⟩:=(aV Tryz.underlying43 cs3 dC el3 λf hf=>rd3 f) _ _ hy4
 simp only[xI] at r4
 exact⟨Obj.mk x0 x1 x2 x3 x4,(by exact(ao r0 rfl (ao r1 rfl (ao r2 rfl (ao r3 rfl (ao r4 rfl (cx hl))))))),⟨ltm g4.2,uZ g1⟩⟩
theorem rd121{H:Type}{enc:TypeId×Value→H}{W:World}{spare:Nat→Bool}{held:Bool}(fuel:Nat):Reads enc Tryz.prog W spare held fuel 121 dI (λx:ed=>I64 x.v):=by
 induction fuel using Nat.strongRecOn with
 |_ fuel ih=>
 cases fuel with
 |zero=>exact Reads.zero
 |succ fuel=>
 refine bn Tryz.underlying121 yC (λcs hl h=>?_)
 obtain⟨y0,hy0⟩:=h 0 _ rfl
 obtain⟨x0,r0,g0⟩:=(ax Tryz.underlying3 fuel) _ _ hy0
 simp only[cs3] at r0
 obtain⟨y1,hy1⟩:=h 1 _ rfl
 obtain⟨x1,r1,g1⟩:=(ax Tryz.underlying3 fuel) _ _ hy1
 simp only[cs3] at r1
 obtain⟨y2,hy2⟩:=h 2 _ rfl
 obtain⟨x2,r2,g2⟩:=(ax Tryz.underlying2 fuel) _ _ hy2
 simp only[cs2] at r2
 exact⟨ed.mk x0 x1 x2,(by exact(ao r0 rfl (ao r1 rfl (ao r2 rfl (cx hl))))),uZ g2⟩
theorem rd126{H:Type}{enc:TypeId×Value→H}{W:World}{spare:Nat→Bool}{held:Bool}(fuel:Nat):Reads enc Tryz.prog W spare held fuel 126 jt (λ_:bG=>True):=by
 induction fuel using Nat.strongRecOn with
 |_ fuel ih=>
 cases fuel with
 |zero=>exact Reads.zero
 |succ fuel=>
 refine bn Tryz.underlying126 yB (λcs hl h=>?_)
 obtain⟨y0,hy0⟩:=h 0 _ rfl
 obtain⟨x0,r0,g0⟩:=(aV Tryz.underlying43 cs3 dC el3 λf hf=>rd3 f) _ _ hy0
 simp only[xI] at r0
 obtain⟨y1,hy1⟩:=h 1 _ rfl
 obtain⟨x1,r1,g1⟩:=(aV Tryz.underlying43 cs3 dC el3 λf hf=>rd3 f) _ _ hy1
 simp only[xI] at r1
 exact⟨bG.mk x0 x1,(by exact(ao r0 rfl (ao r1 rfl (cx hl)))),trivial⟩
theorem rd67{H:Type}{enc:TypeId×Value→H}{W:World}{spare:Nat→Bool}{held:Bool}(fuel:Nat):Reads enc Tryz.prog W spare held fuel 67 E67 (λ_:fh=>True):=by
 induction fuel using Nat.strongRecOn with
 |_ fuel ih=>
 cases fuel with
 |zero=>exact Reads.zero
 |succ fuel=>
 refine bn Tryz.underlying67 cs67 (λcs hl h=>?_)
 obtain⟨y0,hy0⟩:=h 0 _ rfl
 obtain⟨x0,r0,g0⟩:=(ax Tryz.underlying3 fuel) _ _ hy0
 simp only[cs3] at r0
 obtain⟨y1,hy1⟩:=h 1 _ rfl
 obtain⟨x1,r1,g1⟩:=(ax Tryz.underlying3 fuel) _ _ hy1
 simp only[cs3] at r1
 obtain⟨y2,hy2⟩:=h 2 _ rfl
 obtain⟨x2,r2,g2⟩:=(aV Tryz.underlying65 yB dC el126 λf hf=>rd126 f) _ _ hy2
 simp only[cs65] at r2
 obtain⟨y3,hy3⟩:=h 3 _ rfl
 obtain⟨x3,r3,g3⟩:=(ax Tryz.underlying2 fuel) _ _ hy3
 simp only[cs2] at r3
 exact⟨fh.mk x0 x1 x2 x3,(by exact(ao r0 rfl (ao r1 rfl (ao r2 rfl (ao r3 rfl (cx hl)))))),trivial⟩
theorem rd134{H:Type}{enc:TypeId×Value→H}{W:World}{spare:Nat→Bool}{held:Bool}(fuel:Nat):Reads enc Tryz.prog W spare held fuel 134 dh (λ_:aL=>True):=by
 induction fuel using Nat.strongRecOn with
 |_ fuel ih=>
 cases fuel with
 |zero=>exact Reads.zero
 |succ fuel=>
 refine bn Tryz.underlying134 vH (λcs hl h=>?_)
 obtain⟨y0,hy0⟩:=h 0 _ rfl
 obtain⟨x0,r0,g0⟩:=(ax Tryz.underlying131 fuel) _ _ hy0
 simp only[cs131] at r0
 obtain⟨y1,hy1⟩:=h 1 _ rfl
 obtain⟨x1,r1,g1⟩:=(ax Tryz.underlying132 fuel) _ _ hy1
 simp only[cs132] at r1
 obtain⟨y2,hy2⟩:=h 2 _ rfl
 obtain⟨x2,r2,g2⟩:=(ax Tryz.underlying2 fuel) _ _ hy2
 simp only[cs2] at r2
 obtain⟨y3,hy3⟩:=h 3 _ rfl
 obtain⟨x3,r3,g3⟩:=(ax Tryz.underlying3 fuel) _ _ hy3
 simp only[cs3] at r3
 obtain⟨y4,hy4⟩:=h 4 _ rfl
 obtain⟨x4,r4,g4⟩:=(ax Tryz.underlying3 fuel) _ _ hy4
 simp only[cs3] at r4
 obtain⟨y5,hy5⟩:=h 5 _ rfl
 obtain⟨x5,r5,g5⟩:=(ax Tryz.underlying3 fuel) _ _ hy5
 simp only[cs3] at r5
 obtain⟨y6,hy6⟩:=h 6 _ rfl
 obtain⟨x6,r6,g6⟩:=(ax Tryz.underlying2 fuel) _ _ hy6
 simp only[cs2] at r6
 obtain⟨y7,hy7⟩:=h 7 _ rfl
 obtain⟨x7,r7,g7⟩:=(ax Tryz.underlying2 fuel) _ _ hy7
 simp only[cs2] at r7
 obtain⟨y8,hy8⟩:=h 8 _ rfl
 obtain⟨x8,r8,g8⟩:=(aV Tryz.underlying127 vH dC yt λf hf=>ih f oM) _ _ hy8
 simp only[yA] at r8
 exact⟨aL.mk x0 x1 x2 x3 x4 x5 x6 x7 x8,(by rw[iy];exact(ao r0 rfl (ao r1 rfl (ao r2 rfl (ao r3 rfl (ao r4 rfl (ao r5 rfl (ao r6 rfl (ao r7 rfl (ao r8 rfl (cx hl))))))))))),trivial⟩
theorem rd129{H:Type}{enc:TypeId×Value→H}{W:World}{spare:Nat→Bool}{held:Bool}(fuel:Nat):Reads enc Tryz.prog W spare held fuel 129 cM (λ_:eR=>True):=by
 induction fuel using Nat.strongRecOn with
 |_ fuel ih=>
 cases fuel with
 |zero=>exact Reads.zero
 |succ fuel=>
 refine bn Tryz.underlying129 yz (λcs hl h=>?_)
 obtain⟨y0,hy0⟩:=h 0 _ rfl
 obtain⟨x0,r0,g0⟩:=(ax Tryz.underlying3 fuel) _ _ hy0
 simp only[cs3] at r0
 obtain⟨y1,hy1⟩:=h 1 _ rfl
 obtain⟨x1,r1,g1⟩:=(aV Tryz.underlying127 vH dC yt λf hf=>rd134 f) _ _ hy1
 simp only[yA] at r1
 exact⟨eR.mk x0 x1,(by exact(ao r0 rfl (ao r1 rfl (cx hl)))),trivial⟩
theorem rd137{H:Type}{enc:TypeId×Value→H}{W:World}{spare:Nat→Bool}{held:Bool}(fuel:Nat):Reads enc Tryz.prog W spare held fuel 137 d2 (λ_:d6=>True):=by
 induction fuel using Nat.strongRecOn with
 |_ fuel ih=>
 cases fuel with
 |zero=>exact Reads.zero
 |succ fuel=>
 refine bn Tryz.underlying137 yy (λcs hl h=>?_)
 obtain⟨y0,hy0⟩:=h 0 _ rfl
 obtain⟨x0,r0,g0⟩:=(ax Tryz.underlying3 fuel) _ _ hy0
 simp only[cs3] at r0
 obtain⟨y1,hy1⟩:=h 1 _ rfl
 obtain⟨x1,r1,g1⟩:=(ax Tryz.underlying135 fuel) _ _ hy1
 simp only[cs135] at r1
 exact⟨d6.mk x0 x1,(by exact(ao r0 rfl (ao r1 rfl (cx hl)))),trivial⟩
theorem rd33{H:Type}{enc:TypeId×Value→H}{W:World}{spare:Nat→Bool}{held:Bool}(fuel:Nat):Reads enc Tryz.prog W spare held fuel 33 E33 SzT:=by
 induction fuel using Nat.strongRecOn with
 |_ fuel ih=>
 cases fuel with
 |zero=>exact Reads.zero
 |succ fuel=>
 refine bn Tryz.underlying33 cs33 (λcs hl h=>?_)
 obtain⟨y0,hy0⟩:=h 0 _ rfl
 obtain⟨x0,r0,g0⟩:=(aV Tryz.underlying22 cs64 dC el64 λf hf=>rd64 f) _ _ hy0
 simp only[cs22] at r0
 obtain⟨y1,hy1⟩:=h 1 _ rfl
 obtain⟨x1,r1,g1⟩:=(aV Tryz.underlying23 yx dC el140 λf hf=>rd140 f) _ _ hy1
 simp only[cs23] at r1
 obtain⟨y2,hy2⟩:=h 2 _ rfl
 obtain⟨x2,r2,g2⟩:=(aV Tryz.underlying24 yw dC el142 λf hf=>rd142 f) _ _ hy2
 simp only[cs24] at r2
 obtain⟨y3,hy3⟩:=h 3 _ rfl
 obtain⟨x3,r3,g3⟩:=(aV Tryz.underlying25 yF dC el101 λf hf=>rd101 f) _ _ hy3
 simp only[cs25] at r3
 obtain⟨y4,hy4⟩:=h 4 _ rfl
 obtain⟨x4,r4,g4⟩:=(aV Tryz.underlying26 xI dC el43 λf hf=>rd43 f) _ _ hy4
 simp only[cs26] at r4
 obtain⟨y5,hy5⟩:=h 5 _ rfl
 obtain⟨x5,r5,g5⟩:=(aV Tryz.underlying27 yD dC el119 λf hf=>rd119 f) _ _ hy5
 simp only[cs27] at r5
 obtain⟨y6,hy6⟩:=h 6 _ rfl
 obtain⟨x6,r6,g6⟩:=(aV Tryz.underlying28 yC dC el121 λf hf=>rd121 f) _ _ hy6
 simp only[cs28] at r6
 obtain⟨y7,hy7⟩:=h 7 _ rfl
 obtain⟨x7,r7,g7⟩:=(ax Tryz.underlying3 fuel) _ _ hy7
 simp only[cs3] at r7
 obtain⟨y8,hy8⟩:=h 8 _ rfl
 obtain⟨x8,r8,g8⟩:=(aV Tryz.underlying29 cs67 dC el67 λf hf=>rd67 f) _ _ hy8
 simp only[cs29] at r8
 obtain⟨y9,hy9⟩:=h 9 _ rfl
 obtain⟨x9,r9,g9⟩:=(aV Tryz.underlying30 yz dC el129 λf hf=>rd129 f) _ _ hy9
 simp only[cs30] at r9
 obtain⟨y10,hy10⟩:=h 10 _ rfl
 obtain⟨x10,r10,g10⟩:=(aV Tryz.underlying31 yy dC el137 λf hf=>rd137 f) _ _ hy10
 simp only[cs31] at r10
 exact⟨ah.mk x0 x1 x2 x3 x4 x5 x6 x7 x8 x9 x10,(by exact(ao r0 rfl (ao r1 rfl (ao r2 rfl (ao r3 rfl (ao r4 rfl (ao r5 rfl (ao r6 rfl (ao r7 rfl (ao r8 rfl (ao r9 rfl (ao r10 rfl (cx hl))))))))))))),⟨⟨λx hx=>(g0.1 x hx).1,ltm g6.2,λx hx=>(g5.1 x hx).1,λl hl=>ltm (g4.1 l hl).2,ltm g9.2,ltm g10.2⟩,⟨g3.1⟩⟩⟩
end Go.Proofs.YtpodhdopgcedlaaGreatDoor
