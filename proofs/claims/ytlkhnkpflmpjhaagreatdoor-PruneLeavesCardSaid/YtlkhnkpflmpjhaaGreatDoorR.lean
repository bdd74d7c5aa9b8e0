/- What the arguments of the walks of texts read asz; what is laid. -/
import Derived.Test.YtlkhnkpflmpjhaaGreatDoorRows
import Derived.Test.YtlkhnkpflmpjhaaGreatDoorX
import Derived.Test.YtlkhnkpflmpjhaaGreatDoorLb
set_option linter.all false
set_option maxRecDepth 100000
namespace Go.Proofs.YtlkhnkpflmpjhaaGreatDoor
open Go Go.Sk
open Go.IntKind (i64)
open Go.ChangeShapes Go.WideShapes Go.ChangeAt Go.RowKit
theorem Tryz.own:ownKnob Tryz.prog.godebug=none:=by kernel_rfl
theorem pm:laidOutB Tryz.prog=true:=by kernel_rfl
abbrev qo:List (String×DataW Unit):=[("unicode.White_Space",Rows.laid_unicode_White_Space),("strings.asciiSpace",Rows.laid_strings_asciiSpace),("ceiling/insn.rows",Rows.laid_ceiling_insn_rows)]
theorem vV(os:Os)(args:Array Value):laidMetH Tryz.prog qo ((World.doorLaid Tryz.prog 400 os).forCall (λ_ _=>0) ⟨#[],args,[]⟩).memory:=
 laidMetH_of_parts3 (fuel:=8) (laidMet_of_run' 8 kR kR) kR kR
theorem rO{W:World}(h:laidMetH Tryz.prog qo W):Gl (bz W) W:=by
 rw[MakeChecks.laidMetH_plain _ _ _ kR] at h;obtain⟨ps,⟨g0,t0,cs0,f0,p0,q0,hg0,ht0,hv0,hd0,⟨g1,t1,cs1,f1,p1,q1,hg1,ht1,hv1,hd1,⟨g2,t2,cs2,f2,p2,q2,hg2,ht2,hv2,hd2,_,_⟩,_⟩,_⟩,_,_⟩:=h;obtain rfl:=inS ((show Tryz.prog.globalNamed "strings.asciiSpace"=some 1 by kernel_rfl).symm.trans hg1);obtain rfl:=inS ((show(Tryz.prog.globals[1]?).map (·.type)=some 252 by kernel_rfl).symm.trans ht1);have e1:(Rows.laid_strings_asciiSpace:DataW Unit)=(DataW.agg (dN.map λn=>DataW.lit (Lit.int .u8 n)):DataW Unit):=by kernel_rfl
 rw[e1] at hd1;have r1:=rn Tryz.underlying252 Tryz.underlying5 kR kR hg1 hv1 hd1;obtain rfl:=inS ((show Tryz.prog.globalNamed "ceiling/insn.rows"=some 0 by kernel_rfl).symm.trans hg2);obtain rfl:=inS ((show(Tryz.prog.globals[0]?).map (·.type)=some 230 by kernel_rfl).symm.trans ht2);have e2:(Rows.laid_ceiling_insn_rows:DataW Unit)=(DataW.agg (oP.map λp=>DataW.agg [DataW.lit (Lit.string p.1.data.toList),DataW.lit (Lit.string p.2.data.toList)]):DataW Unit):=by kernel_rfl
 rw[e2] at hd2;have r2:=nt Tryz.underlying230 Tryz.underlying200 rfl rfl rfl rfl Tryz.underlying9 kR kR kR hg2 hv2 hd2;intro g ps hps;cases g with
 |zero=>simp only[gpc,aK] at hps;subst hps;exact r2
 |succ g=>
  cases g with
  |zero=>simp only[gpc,aK] at hps;subst hps;exact r1
  |succ g=>simp[gpc] at hps
theorem ltm{n:Nat}(h:n<=maxLen):n<9223372036854775808:=by simp only[maxLen] at h;omega
structure SzT(t:ah):Prop where
 sz:Sz t
 sa:SzA t
 ob:∀o∈t.objs, -9223372036854775808<=o.lo/\o.hi<=9223372036854775807
 nn:∀x∈t.insns,I64 x.n
theorem tZ{n:Int}(h:i64.min<=n/\n<=i64.max):I64 n:=by
 have h1:i64.min= -9223372036854775808:=by decide
 have h2:i64.max=9223372036854775807:=by decide
 unfold I64;omega
theorem cs2:Tryz.prog.cellsOf 2=1:=by kernel_rfl
theorem cs3:Tryz.prog.cellsOf 3=1:=by kernel_rfl
theorem cs4:Tryz.prog.cellsOf 4=1:=by kernel_rfl
theorem xm:Tryz.prog.cellsOf 22=1:=by kernel_rfl
theorem cs27:Tryz.prog.cellsOf 27=1:=by kernel_rfl
theorem cs28:Tryz.prog.cellsOf 28=1:=by kernel_rfl
theorem cs29:Tryz.prog.cellsOf 29=1:=by kernel_rfl
theorem cs30:Tryz.prog.cellsOf 30=1:=by kernel_rfl
theorem cs31:Tryz.prog.cellsOf 31=1:=by kernel_rfl
theorem cs32:Tryz.prog.cellsOf 32=1:=by kernel_rfl
theorem cs33:Tryz.prog.cellsOf 33=1:=by kernel_rfl
theorem cs34:Tryz.prog.cellsOf 34=1:=by kernel_rfl
theorem cs35:Tryz.prog.cellsOf 35=1:=by kernel_rfl
theorem cs36:Tryz.prog.cellsOf 36=1:=by kernel_rfl
theorem cs38:Tryz.prog.cellsOf 38=11:=by kernel_rfl
theorem cs43:Tryz.prog.cellsOf 43=1:=by kernel_rfl
theorem cs45:Tryz.prog.cellsOf 45=7:=by kernel_rfl
theorem cs50:Tryz.prog.cellsOf 50=5:=by kernel_rfl
theorem cs55:Tryz.prog.cellsOf 55=1:=by kernel_rfl
theorem cs57:Tryz.prog.cellsOf 57=4:=by kernel_rfl
theorem cs62:Tryz.prog.cellsOf 62=3:=by kernel_rfl
theorem cs68:Tryz.prog.cellsOf 68=2:=by kernel_rfl
theorem cs69:Tryz.prog.cellsOf 69=1:=by kernel_rfl
theorem cs71:Tryz.prog.cellsOf 71=2:=by kernel_rfl
theorem cs73:Tryz.prog.cellsOf 73=1:=by kernel_rfl
theorem cs74:Tryz.prog.cellsOf 74=1:=by kernel_rfl
theorem yL:Tryz.prog.cellsOf 76=9:=by kernel_rfl
theorem cs77:Tryz.prog.cellsOf 77=1:=by kernel_rfl
theorem cs79:Tryz.prog.cellsOf 79=2:=by kernel_rfl
theorem cs80:Tryz.prog.cellsOf 80=1:=by kernel_rfl
theorem cs82:Tryz.prog.cellsOf 82=3:=by kernel_rfl
theorem cs84:Tryz.prog.cellsOf 84=1:=by kernel_rfl
theorem cs86:Tryz.prog.cellsOf 86=5:=by kernel_rfl
theorem cs88:Tryz.prog.cellsOf 88=4:=by kernel_rfl
theorem cs90:Tryz.prog.cellsOf 90=3:=by kernel_rfl
theorem el3:∀x,(E3 x).length=1:=λ_=>rfl
theorem el22:∀x,(E22 x).length=1:=λ_=>rfl
theorem el45:∀x,(E45 x).length=7:=λ_=>rfl
theorem el50:∀x,(E50 x).length=5:=λ_=>rfl
theorem el57:∀x,(E57 x).length=4:=λ_=>rfl
theorem el62:∀x,(E62 x).length=3:=λ_=>rfl
theorem el68:∀x,(E68 x).length=2:=λ_=>rfl
theorem el71:∀x,(E71 x).length=2:=λ_=>rfl
theorem el76:∀x,(E76 x).length=9:=λx=>by rw[lm];rfl
theorem el79:∀x,(E79 x).length=2:=λ_=>rfl
theorem el82:∀x,(E82 x).length=3:=λ_=>rfl
theorem el86:∀x,(E86 x).length=5:=λ_=>rfl
theorem el88:∀x,(E88 x).length=4:=λ_=>rfl
theorem el90:∀x,(E90 x).length=3:=λ_=>rfl
theorem rd3{H:Type}{enc:TypeId×Value->H}{W:World}{spare:Nat->Bool}{held:Bool}(fuel:Nat):Reads enc Tryz.prog W spare held fuel 3 E3 (λn:Int=>i64.min<=n/\n<=i64.max):=(aJ Tryz.underlying3 fuel)
theorem rd22{H:Type}{enc:TypeId×Value->H}{W:World}{spare:Nat->Bool}{held:Bool}(fuel:Nat):Reads enc Tryz.prog W spare held fuel 22 E22 (λL:List Int=>(∀x∈L,(λn:Int=>i64.min<=n/\n<=i64.max) x)/\L.length<=maxLen):=(bF Tryz.underlying22 cs3 dC el3 λf hf=>rd3 f)
theorem rd45{H:Type}{enc:TypeId×Value->H}{W:World}{spare:Nat->Bool}{held:Bool}(fuel:Nat):Reads enc Tryz.prog W spare held fuel 45 E45 (λx:aG=>(0<=x.op/\x.op<=255)/\I64 x.n):=by
 induction fuel using Nat.strongRecOn with
 |_ fuel ih=>
 cases fuel with
 |zero=>exact Reads.zero
 |succ fuel=>
 refine ce Tryz.underlying45 cs45 (λcs hl h=>?_);obtain⟨y0,hy0⟩:=h 0 _ rfl;obtain⟨x0,r0,g0⟩:=(aJ Tryz.underlying43 fuel) _ _ hy0;simp only[cs43] at r0;obtain⟨y1,hy1⟩:=h 1 _ rfl;obtain⟨x1,r1,g1⟩:=(aJ Tryz.underlying3 fuel) _ _ hy1;simp only[cs3] at r1;obtain⟨y2,hy2⟩:=h 2 _ rfl;obtain⟨x2,r2,g2⟩:=(aJ Tryz.underlying3 fuel) _ _ hy2;simp only[cs3] at r2;obtain⟨y3,hy3⟩:=h 3 _ rfl;obtain⟨x3,r3,g3⟩:=(aJ Tryz.underlying3 fuel) _ _ hy3;simp only[cs3] at r3;obtain⟨y4,hy4⟩:=h 4 _ rfl;obtain⟨x4,r4,g4⟩:=(aJ Tryz.underlying2 fuel) _ _ hy4;simp only[cs2] at r4;obtain⟨y5,hy5⟩:=h 5 _ rfl;obtain⟨x5,r5,g5⟩:=(aJ Tryz.underlying2 fuel) _ _ hy5;simp only[cs2] at r5;obtain⟨y6,hy6⟩:=h 6 _ rfl;obtain⟨x6,r6,g6⟩:=(aJ Tryz.underlying3 fuel) _ _ hy6;simp only[cs3] at r6;exact⟨aG.mk x0 x1 x2 x3 x4 x5 x6,(by exact(aq r0 rfl (aq r1 rfl (aq r2 rfl (aq r3 rfl (aq r4 rfl (aq r5 rfl (aq r6 rfl (di hl))))))))),⟨⟨g0.1,g0.2⟩,tZ g4⟩⟩
theorem rd88{H:Type}{enc:TypeId×Value->H}{W:World}{spare:Nat->Bool}{held:Bool}(fuel:Nat):Reads enc Tryz.prog W spare held fuel 88 E88 (λ_:bi=>True):=by
 induction fuel using Nat.strongRecOn with
 |_ fuel ih=>
 cases fuel with
 |zero=>exact Reads.zero
 |succ fuel=>
 refine ce Tryz.underlying88 cs88 (λcs hl h=>?_);obtain⟨y0,hy0⟩:=h 0 _ rfl;obtain⟨x0,r0,g0⟩:=(aJ Tryz.underlying3 fuel) _ _ hy0;simp only[cs3] at r0;obtain⟨y1,hy1⟩:=h 1 _ rfl;obtain⟨x1,r1,g1⟩:=(aJ Tryz.underlying3 fuel) _ _ hy1;simp only[cs3] at r1;obtain⟨y2,hy2⟩:=h 2 _ rfl;obtain⟨x2,r2,g2⟩:=(aJ Tryz.underlying3 fuel) _ _ hy2;simp only[cs3] at r2;obtain⟨y3,hy3⟩:=h 3 _ rfl;obtain⟨x3,r3,g3⟩:=(mv Tryz.underlying4 fuel) _ _ hy3;simp only[cs4] at r3;exact⟨bi.mk x0 x1 x2 x3,(by exact(aq r0 rfl (aq r1 rfl (aq r2 rfl (aq r3 rfl (di hl)))))),trivial⟩
theorem rd90{H:Type}{enc:TypeId×Value->H}{W:World}{spare:Nat->Bool}{held:Bool}(fuel:Nat):Reads enc Tryz.prog W spare held fuel 90 E90 (λ_:Loop=>True):=by
 induction fuel using Nat.strongRecOn with
 |_ fuel ih=>
 cases fuel with
 |zero=>exact Reads.zero
 |succ fuel=>
 refine ce Tryz.underlying90 cs90 (λcs hl h=>?_);obtain⟨y0,hy0⟩:=h 0 _ rfl;obtain⟨x0,r0,g0⟩:=(aJ Tryz.underlying3 fuel) _ _ hy0;simp only[cs3] at r0;obtain⟨y1,hy1⟩:=h 1 _ rfl;obtain⟨x1,r1,g1⟩:=(aJ Tryz.underlying3 fuel) _ _ hy1;simp only[cs3] at r1;obtain⟨y2,hy2⟩:=h 2 _ rfl;obtain⟨x2,r2,g2⟩:=(aJ Tryz.underlying2 fuel) _ _ hy2;simp only[cs2] at r2;exact⟨Loop.mk x0 x1 x2,(by exact(aq r0 rfl (aq r1 rfl (aq r2 rfl (di hl))))),trivial⟩
theorem rd86{H:Type}{enc:TypeId×Value->H}{W:World}{spare:Nat->Bool}{held:Bool}(fuel:Nat):Reads enc Tryz.prog W spare held fuel 86 E86 (λa:dI=>I64 a.entry/\I64 a.time):=by
 induction fuel using Nat.strongRecOn with
 |_ fuel ih=>
 cases fuel with
 |zero=>exact Reads.zero
 |succ fuel=>
 refine ce Tryz.underlying86 cs86 (λcs hl h=>?_);obtain⟨y0,hy0⟩:=h 0 _ rfl;obtain⟨x0,r0,g0⟩:=(aJ Tryz.underlying84 fuel) _ _ hy0;simp only[cs84] at r0;obtain⟨y1,hy1⟩:=h 1 _ rfl;obtain⟨x1,r1,g1⟩:=(aJ Tryz.underlying3 fuel) _ _ hy1;simp only[cs3] at r1;obtain⟨y2,hy2⟩:=h 2 _ rfl;obtain⟨x2,r2,g2⟩:=(aJ Tryz.underlying3 fuel) _ _ hy2;simp only[cs3] at r2;obtain⟨y3,hy3⟩:=h 3 _ rfl;obtain⟨x3,r3,g3⟩:=(aJ Tryz.underlying3 fuel) _ _ hy3;simp only[cs3] at r3;obtain⟨y4,hy4⟩:=h 4 _ rfl;obtain⟨x4,r4,g4⟩:=(aJ Tryz.underlying3 fuel) _ _ hy4;simp only[cs3] at r4;exact⟨dI.mk x0 x1 x2 x3 x4,(by exact(aq r0 rfl (aq r1 rfl (aq r2 rfl (aq r3 rfl (aq r4 rfl (di hl))))))),⟨tZ g1,tZ g3⟩⟩
theorem rd82{H:Type}{enc:TypeId×Value->H}{W:World}{spare:Nat->Bool}{held:Bool}(fuel:Nat):Reads enc Tryz.prog W spare held fuel 82 E82 (λx:bU=>∀a∈x.alts,I64 a.entry/\I64 a.time):=by
 induction fuel using Nat.strongRecOn with
 |_ fuel ih=>
 cases fuel with
 |zero=>exact Reads.zero
 |succ fuel=>
 refine ce Tryz.underlying82 cs82 (λcs hl h=>?_);obtain⟨y0,hy0⟩:=h 0 _ rfl;obtain⟨x0,r0,g0⟩:=(bF Tryz.underlying80 cs86 dC el86 λf hf=>rd86 f) _ _ hy0;simp only[cs80] at r0;obtain⟨y1,hy1⟩:=h 1 _ rfl;obtain⟨x1,r1,g1⟩:=(aJ Tryz.underlying3 fuel) _ _ hy1;simp only[cs3] at r1;obtain⟨y2,hy2⟩:=h 2 _ rfl;obtain⟨x2,r2,g2⟩:=(aJ Tryz.underlying3 fuel) _ _ hy2;simp only[cs3] at r2;exact⟨bU.mk x0 x1 x2,(by exact(aq r0 rfl (aq r1 rfl (aq r2 rfl (di hl))))),g0.1⟩
theorem rd50{H:Type}{enc:TypeId×Value->H}{W:World}{spare:Nat->Bool}{held:Bool}(fuel:Nat):Reads enc Tryz.prog W spare held fuel 50 E50 (λx:Obj=>x.set_.length<9223372036854775808/\I64 x.lo/\I64 x.hi):=by
 induction fuel using Nat.strongRecOn with
 |_ fuel ih=>
 cases fuel with
 |zero=>exact Reads.zero
 |succ fuel=>
 refine ce Tryz.underlying50 cs50 (λcs hl h=>?_);obtain⟨y0,hy0⟩:=h 0 _ rfl;obtain⟨x0,r0,g0⟩:=(aJ Tryz.underlying3 fuel) _ _ hy0;simp only[cs3] at r0;obtain⟨y1,hy1⟩:=h 1 _ rfl;obtain⟨x1,r1,g1⟩:=(aJ Tryz.underlying2 fuel) _ _ hy1;simp only[cs2] at r1;obtain⟨y2,hy2⟩:=h 2 _ rfl;obtain⟨x2,r2,g2⟩:=(aJ Tryz.underlying2 fuel) _ _ hy2;simp only[cs2] at r2;obtain⟨y3,hy3⟩:=h 3 _ rfl;obtain⟨x3,r3,g3⟩:=(mv Tryz.underlying4 fuel) _ _ hy3;simp only[cs4] at r3;obtain⟨y4,hy4⟩:=h 4 _ rfl;obtain⟨x4,r4,g4⟩:=(bF Tryz.underlying22 cs3 dC el3 λf hf=>rd3 f) _ _ hy4;simp only[xm] at r4;exact⟨Obj.mk x0 x1 x2 x3 x4,(by exact(aq r0 rfl (aq r1 rfl (aq r2 rfl (aq r3 rfl (aq r4 rfl (di hl))))))),⟨ltm g4.2,tZ g1,tZ g2⟩⟩
theorem rd62{H:Type}{enc:TypeId×Value->H}{W:World}{spare:Nat->Bool}{held:Bool}(fuel:Nat):Reads enc Tryz.prog W spare held fuel 62 E62 (λx:dO=>I64 x.v):=by
 induction fuel using Nat.strongRecOn with
 |_ fuel ih=>
 cases fuel with
 |zero=>exact Reads.zero
 |succ fuel=>
 refine ce Tryz.underlying62 cs62 (λcs hl h=>?_);obtain⟨y0,hy0⟩:=h 0 _ rfl;obtain⟨x0,r0,g0⟩:=(aJ Tryz.underlying3 fuel) _ _ hy0;simp only[cs3] at r0;obtain⟨y1,hy1⟩:=h 1 _ rfl;obtain⟨x1,r1,g1⟩:=(aJ Tryz.underlying3 fuel) _ _ hy1;simp only[cs3] at r1;obtain⟨y2,hy2⟩:=h 2 _ rfl;obtain⟨x2,r2,g2⟩:=(aJ Tryz.underlying2 fuel) _ _ hy2;simp only[cs2] at r2;exact⟨dO.mk x0 x1 x2,(by exact(aq r0 rfl (aq r1 rfl (aq r2 rfl (di hl))))),tZ g2⟩
theorem rd68{H:Type}{enc:TypeId×Value->H}{W:World}{spare:Nat->Bool}{held:Bool}(fuel:Nat):Reads enc Tryz.prog W spare held fuel 68 E68 (λ_:cq=>True):=by
 induction fuel using Nat.strongRecOn with
 |_ fuel ih=>
 cases fuel with
 |zero=>exact Reads.zero
 |succ fuel=>
 refine ce Tryz.underlying68 cs68 (λcs hl h=>?_);obtain⟨y0,hy0⟩:=h 0 _ rfl;obtain⟨x0,r0,g0⟩:=(bF Tryz.underlying22 cs3 dC el3 λf hf=>rd3 f) _ _ hy0;simp only[xm] at r0;obtain⟨y1,hy1⟩:=h 1 _ rfl;obtain⟨x1,r1,g1⟩:=(bF Tryz.underlying22 cs3 dC el3 λf hf=>rd3 f) _ _ hy1;simp only[xm] at r1;exact⟨cq.mk x0 x1,(by exact(aq r0 rfl (aq r1 rfl (di hl)))),trivial⟩
theorem rd57{H:Type}{enc:TypeId×Value->H}{W:World}{spare:Nat->Bool}{held:Bool}(fuel:Nat):Reads enc Tryz.prog W spare held fuel 57 E57 (λ_:bK=>True):=by
 induction fuel using Nat.strongRecOn with
 |_ fuel ih=>
 cases fuel with
 |zero=>exact Reads.zero
 |succ fuel=>
 refine ce Tryz.underlying57 cs57 (λcs hl h=>?_);obtain⟨y0,hy0⟩:=h 0 _ rfl;obtain⟨x0,r0,g0⟩:=(aJ Tryz.underlying3 fuel) _ _ hy0;simp only[cs3] at r0;obtain⟨y1,hy1⟩:=h 1 _ rfl;obtain⟨x1,r1,g1⟩:=(aJ Tryz.underlying3 fuel) _ _ hy1;simp only[cs3] at r1;obtain⟨y2,hy2⟩:=h 2 _ rfl;obtain⟨x2,r2,g2⟩:=(bF Tryz.underlying55 cs68 dC el68 λf hf=>rd68 f) _ _ hy2;simp only[cs55] at r2;obtain⟨y3,hy3⟩:=h 3 _ rfl;obtain⟨x3,r3,g3⟩:=(aJ Tryz.underlying2 fuel) _ _ hy3;simp only[cs2] at r3;exact⟨bK.mk x0 x1 x2 x3,(by exact(aq r0 rfl (aq r1 rfl (aq r2 rfl (aq r3 rfl (di hl)))))),trivial⟩
theorem rd76{H:Type}{enc:TypeId×Value->H}{W:World}{spare:Nat->Bool}{held:Bool}(fuel:Nat):Reads enc Tryz.prog W spare held fuel 76 E76 (λ_:bj=>True):=by
 induction fuel using Nat.strongRecOn with
 |_ fuel ih=>
 cases fuel with
 |zero=>exact Reads.zero
 |succ fuel=>
 refine ce Tryz.underlying76 yL (λcs hl h=>?_);obtain⟨y0,hy0⟩:=h 0 _ rfl;obtain⟨x0,r0,g0⟩:=(aJ Tryz.underlying73 fuel) _ _ hy0;simp only[cs73] at r0;obtain⟨y1,hy1⟩:=h 1 _ rfl;obtain⟨x1,r1,g1⟩:=(aJ Tryz.underlying74 fuel) _ _ hy1;simp only[cs74] at r1;obtain⟨y2,hy2⟩:=h 2 _ rfl;obtain⟨x2,r2,g2⟩:=(aJ Tryz.underlying2 fuel) _ _ hy2;simp only[cs2] at r2;obtain⟨y3,hy3⟩:=h 3 _ rfl;obtain⟨x3,r3,g3⟩:=(aJ Tryz.underlying3 fuel) _ _ hy3;simp only[cs3] at r3;obtain⟨y4,hy4⟩:=h 4 _ rfl;obtain⟨x4,r4,g4⟩:=(aJ Tryz.underlying3 fuel) _ _ hy4;simp only[cs3] at r4;obtain⟨y5,hy5⟩:=h 5 _ rfl;obtain⟨x5,r5,g5⟩:=(aJ Tryz.underlying3 fuel) _ _ hy5;simp only[cs3] at r5;obtain⟨y6,hy6⟩:=h 6 _ rfl;obtain⟨x6,r6,g6⟩:=(aJ Tryz.underlying2 fuel) _ _ hy6;simp only[cs2] at r6;obtain⟨y7,hy7⟩:=h 7 _ rfl;obtain⟨x7,r7,g7⟩:=(aJ Tryz.underlying2 fuel) _ _ hy7;simp only[cs2] at r7;obtain⟨y8,hy8⟩:=h 8 _ rfl;obtain⟨x8,r8,g8⟩:=(bF Tryz.underlying69 yL dC el76 λf hf=>ih f oM) _ _ hy8;simp only[cs69] at r8;exact⟨bj.mk x0 x1 x2 x3 x4 x5 x6 x7 x8,(by rw[lm];exact(aq r0 rfl (aq r1 rfl (aq r2 rfl (aq r3 rfl (aq r4 rfl (aq r5 rfl (aq r6 rfl (aq r7 rfl (aq r8 rfl (di hl))))))))))),trivial⟩
theorem rd71{H:Type}{enc:TypeId×Value->H}{W:World}{spare:Nat->Bool}{held:Bool}(fuel:Nat):Reads enc Tryz.prog W spare held fuel 71 E71 (λ_:fp=>True):=by
 induction fuel using Nat.strongRecOn with
 |_ fuel ih=>
 cases fuel with
 |zero=>exact Reads.zero
 |succ fuel=>
 refine ce Tryz.underlying71 cs71 (λcs hl h=>?_);obtain⟨y0,hy0⟩:=h 0 _ rfl;obtain⟨x0,r0,g0⟩:=(aJ Tryz.underlying3 fuel) _ _ hy0;simp only[cs3] at r0;obtain⟨y1,hy1⟩:=h 1 _ rfl;obtain⟨x1,r1,g1⟩:=(bF Tryz.underlying69 yL dC el76 λf hf=>rd76 f) _ _ hy1;simp only[cs69] at r1;exact⟨fp.mk x0 x1,(by exact(aq r0 rfl (aq r1 rfl (di hl)))),trivial⟩
theorem rd79{H:Type}{enc:TypeId×Value->H}{W:World}{spare:Nat->Bool}{held:Bool}(fuel:Nat):Reads enc Tryz.prog W spare held fuel 79 E79 (λ_:c4=>True):=by
 induction fuel using Nat.strongRecOn with
 |_ fuel ih=>
 cases fuel with
 |zero=>exact Reads.zero
 |succ fuel=>
 refine ce Tryz.underlying79 cs79 (λcs hl h=>?_);obtain⟨y0,hy0⟩:=h 0 _ rfl;obtain⟨x0,r0,g0⟩:=(aJ Tryz.underlying3 fuel) _ _ hy0;simp only[cs3] at r0;obtain⟨y1,hy1⟩:=h 1 _ rfl;obtain⟨x1,r1,g1⟩:=(aJ Tryz.underlying77 fuel) _ _ hy1;simp only[cs77] at r1;exact⟨c4.mk x0 x1,(by exact(aq r0 rfl (aq r1 rfl (di hl)))),trivial⟩
theorem rd38{H:Type}{enc:TypeId×Value->H}{W:World}{spare:Nat->Bool}{held:Bool}(fuel:Nat):Reads enc Tryz.prog W spare held fuel 38 E38 SzT:=by
 induction fuel using Nat.strongRecOn with
 |_ fuel ih=>
 cases fuel with
 |zero=>exact Reads.zero
 |succ fuel=>
 refine ce Tryz.underlying38 cs38 (λcs hl h=>?_);obtain⟨y0,hy0⟩:=h 0 _ rfl;obtain⟨x0,r0,g0⟩:=(bF Tryz.underlying27 cs45 dC el45 λf hf=>rd45 f) _ _ hy0;simp only[cs27] at r0;obtain⟨y1,hy1⟩:=h 1 _ rfl;obtain⟨x1,r1,g1⟩:=(bF Tryz.underlying28 cs88 dC el88 λf hf=>rd88 f) _ _ hy1;simp only[cs28] at r1;obtain⟨y2,hy2⟩:=h 2 _ rfl;obtain⟨x2,r2,g2⟩:=(bF Tryz.underlying29 cs90 dC el90 λf hf=>rd90 f) _ _ hy2;simp only[cs29] at r2;obtain⟨y3,hy3⟩:=h 3 _ rfl;obtain⟨x3,r3,g3⟩:=(bF Tryz.underlying30 cs82 dC el82 λf hf=>rd82 f) _ _ hy3;simp only[cs30] at r3;obtain⟨y4,hy4⟩:=h 4 _ rfl;obtain⟨x4,r4,g4⟩:=(bF Tryz.underlying31 xm dC el22 λf hf=>rd22 f) _ _ hy4;simp only[cs31] at r4;obtain⟨y5,hy5⟩:=h 5 _ rfl;obtain⟨x5,r5,g5⟩:=(bF Tryz.underlying32 cs50 dC el50 λf hf=>rd50 f) _ _ hy5;simp only[cs32] at r5;obtain⟨y6,hy6⟩:=h 6 _ rfl;obtain⟨x6,r6,g6⟩:=(bF Tryz.underlying33 cs62 dC el62 λf hf=>rd62 f) _ _ hy6;simp only[cs33] at r6;obtain⟨y7,hy7⟩:=h 7 _ rfl;obtain⟨x7,r7,g7⟩:=(aJ Tryz.underlying3 fuel) _ _ hy7;simp only[cs3] at r7;obtain⟨y8,hy8⟩:=h 8 _ rfl;obtain⟨x8,r8,g8⟩:=(bF Tryz.underlying34 cs57 dC el57 λf hf=>rd57 f) _ _ hy8;simp only[cs34] at r8;obtain⟨y9,hy9⟩:=h 9 _ rfl;obtain⟨x9,r9,g9⟩:=(bF Tryz.underlying35 cs71 dC el71 λf hf=>rd71 f) _ _ hy9;simp only[cs35] at r9;obtain⟨y10,hy10⟩:=h 10 _ rfl;obtain⟨x10,r10,g10⟩:=(bF Tryz.underlying36 cs79 dC el79 λf hf=>rd79 f) _ _ hy10;simp only[cs36] at r10;exact⟨ah.mk x0 x1 x2 x3 x4 x5 x6 x7 x8 x9 x10,(by exact(aq r0 rfl (aq r1 rfl (aq r2 rfl (aq r3 rfl (aq r4 rfl (aq r5 rfl (aq r6 rfl (aq r7 rfl (aq r8 rfl (aq r9 rfl (aq r10 rfl (di hl))))))))))))),⟨⟨λx hx=>(g0.1 x hx).1,ltm g6.2,λx hx=>(g5.1 x hx).1,λl hl=>ltm (g4.1 l hl).2,ltm g9.2,ltm g10.2⟩,⟨g3.1⟩,λo ho=>⟨(g5.1 o ho).2.1.1,(g5.1 o ho).2.2.2⟩,λx hx=>(g0.1 x hx).2⟩⟩
end Go.Proofs.YtlkhnkpflmpjhaaGreatDoor
