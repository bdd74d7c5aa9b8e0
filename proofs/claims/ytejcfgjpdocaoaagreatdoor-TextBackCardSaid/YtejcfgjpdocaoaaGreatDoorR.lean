/- What the arguments of layer 23 read asz; what is laid. -/
import Derived.Test.YtejcfgjpdocaoaaGreatDoorRows
import Derived.Test.YtejcfgjpdocaoaaGreatDoorX
import Derived.Test.YtejcfgjpdocaoaaGreatDoorL
set_option linter.all false
set_option maxRecDepth 100000
namespace Go.Proofs.YtejcfgjpdocaoaaGreatDoor
open Go Go.Sk Go.Tg
open Go.IntKind (i64)
open Go.ChangeShapes Go.WideShapes Go.ChangeAt Go.RowKit
theorem Tryz.own:ownKnob Tryz.prog.godebug=none:=by kernel_rfl
theorem nr:laidOutB Tryz.prog=true:=by kernel_rfl
abbrev ou:List (String×DataW Unit):=[("unicode.White_Space",Rows.laid_unicode_White_Space),("strings.asciiSpace",Rows.laid_strings_asciiSpace),("ceiling/insn.rows",Rows.laid_ceiling_insn_rows)]
theorem t8(os:Os)(args:Array Value):laidMetH Tryz.prog ou ((World.doorLaid Tryz.prog 400 os).forCall (λ_ _=>0) ⟨#[],args,[]⟩).memory:=
 laidMetH_of_parts3 (fuel:=8) (laidMet_of_run' 8 kR kR) kR kR
theorem pC{W:World}(h:laidMetH Tryz.prog ou W):Gl (bl W) W:=by
 rw[MakeChecks.laidMetH_plain _ _ _ kR] at h;obtain⟨ps,⟨g0,t0,cs0,f0,p0,q0,hg0,ht0,hv0,hd0,⟨g1,t1,cs1,f1,p1,q1,hg1,ht1,hv1,hd1,⟨g2,t2,cs2,f2,p2,q2,hg2,ht2,hv2,hd2,_,q2e⟩,q1e⟩,q0e⟩,_,hall⟩:=h;obtain rfl:=inS ((show Tryz.prog.globalNamed "strings.asciiSpace"=some 1 by kernel_rfl).symm.trans hg1);obtain rfl:=inS ((show(Tryz.prog.globals[1]?).map (·.type)=some 315 by kernel_rfl).symm.trans ht1);have e1:(Rows.laid_strings_asciiSpace:DataW Unit)=(DataW.agg (dx.map λn=>DataW.lit (Lit.int .u8 n)):DataW Unit):=by kernel_rfl
 rw[e1] at hd1;have r1:=pi Tryz.underlying315 Tryz.underlying5 kR kR hg1 hv1 hd1 (qG hall λx hx=>by rw[q0e,q1e];simp only[List.mem_append,hx,true_or,or_true]);obtain rfl:=inS ((show Tryz.prog.globalNamed "ceiling/insn.rows"=some 0 by kernel_rfl).symm.trans hg2);obtain rfl:=inS ((show(Tryz.prog.globals[0]?).map (·.type)=some 284 by kernel_rfl).symm.trans ht2);have e2:(Rows.laid_ceiling_insn_rows:DataW Unit)=(DataW.agg (mM.map λp=>DataW.agg [DataW.lit (Lit.string p.1.data.toList),DataW.lit (Lit.string p.2.data.toList)]):DataW Unit):=by kernel_rfl
 rw[e2] at hd2;have r2:=lv Tryz.underlying284 Tryz.underlying231 rfl rfl rfl rfl Tryz.underlying9 kR kR kR hg2 hv2 hd2 (qG hall λx hx=>by rw[q0e,q1e,q2e];simp only[List.mem_append,hx,true_or,or_true]);intro g ps hps;cases g with
 |zero=>simp only[gpc,ay] at hps;subst hps;exact r2
 |succ g=>
  cases g with
  |zero=>simp only[gpc,ay] at hps;subst hps;exact r1
  |succ g=>simp[gpc] at hps
theorem ltm{n:Nat}(h:n<=maxLen):n<9223372036854775808:=by simp only[maxLen] at h;omega
theorem u8r{n:Int}(h:IntKind.u8.min<=n/\n<=IntKind.u8.max):0<=n/\n<=255:=by
 have h1:IntKind.u8.min=0:=by decide
 have h2:IntKind.u8.max=255:=by decide
 omega
theorem dc{n:Int}(h:i64.min<=n/\n<=i64.max):Go.Tg.i64 n:=by
 have h1:i64.min= -9223372036854775808:=by decide
 have h2:i64.max=9223372036854775807:=by decide
 constructor<;>omega
theorem lir{L:List Int}(h:(∀x∈L,i64.min<=x/\x<=i64.max)/\L.length<=maxLen):(liC aY).ok L:=⟨ltm h.2,λx hx=>dc (h.1 x hx)⟩
theorem yn{a b c d x f g h:Int}{l:List ae}(h0:cN.ok a/\cN.ok b/\Go.Tg.i64 c/\Go.Tg.i64 d/\Go.Tg.i64 x/\Go.Tg.i64 f/\Go.Tg.i64 g/\Go.Tg.i64 h)(h1:l.length<9223372036854775808)(h2:∀e∈l,RgE e):RgE (.mk a b c d x f g h l):=by rw[RgE];exact⟨h0,h1,q' h2⟩
theorem cs2:Tryz.prog.cellsOf 2=1:=by kernel_rfl
theorem cs3:Tryz.prog.cellsOf 3=1:=by kernel_rfl
theorem cs4:Tryz.prog.cellsOf 4=1:=by kernel_rfl
theorem cs22:Tryz.prog.cellsOf 22=1:=by kernel_rfl
theorem cs23:Tryz.prog.cellsOf 23=1:=by kernel_rfl
theorem cs24:Tryz.prog.cellsOf 24=1:=by kernel_rfl
theorem cs25:Tryz.prog.cellsOf 25=1:=by kernel_rfl
theorem cs26:Tryz.prog.cellsOf 26=1:=by kernel_rfl
theorem cs27:Tryz.prog.cellsOf 27=1:=by kernel_rfl
theorem cs28:Tryz.prog.cellsOf 28=1:=by kernel_rfl
theorem cs29:Tryz.prog.cellsOf 29=1:=by kernel_rfl
theorem cs30:Tryz.prog.cellsOf 30=1:=by kernel_rfl
theorem cs31:Tryz.prog.cellsOf 31=1:=by kernel_rfl
theorem cs33:Tryz.prog.cellsOf 33=11:=by kernel_rfl
theorem wc:Tryz.prog.cellsOf 54=1:=by kernel_rfl
theorem cs57:Tryz.prog.cellsOf 57=1:=by kernel_rfl
theorem cs59:Tryz.prog.cellsOf 59=7:=by kernel_rfl
theorem cs63:Tryz.prog.cellsOf 63=1:=by kernel_rfl
theorem cs65:Tryz.prog.cellsOf 65=3:=by kernel_rfl
theorem cs67:Tryz.prog.cellsOf 67=5:=by kernel_rfl
theorem cs68:Tryz.prog.cellsOf 68=1:=by kernel_rfl
theorem cs70:Tryz.prog.cellsOf 70=4:=by kernel_rfl
theorem cs72:Tryz.prog.cellsOf 72=2:=by kernel_rfl
theorem cs73:Tryz.prog.cellsOf 73=1:=by kernel_rfl
theorem cs75:Tryz.prog.cellsOf 75=2:=by kernel_rfl
theorem cs77:Tryz.prog.cellsOf 77=1:=by kernel_rfl
theorem cs78:Tryz.prog.cellsOf 78=1:=by kernel_rfl
theorem yf:Tryz.prog.cellsOf 80=9:=by kernel_rfl
theorem cs83:Tryz.prog.cellsOf 83=4:=by kernel_rfl
theorem cs93:Tryz.prog.cellsOf 93=3:=by kernel_rfl
theorem wP:Tryz.prog.cellsOf 118=3:=by kernel_rfl
theorem cs119:Tryz.prog.cellsOf 119=1:=by kernel_rfl
theorem wO:Tryz.prog.cellsOf 121=2:=by kernel_rfl
theorem cs126:Tryz.prog.cellsOf 126=1:=by kernel_rfl
theorem wN:Tryz.prog.cellsOf 128=5:=by kernel_rfl
theorem el3:∀x,(E3 x).length=1:=λ_=>rfl
theorem el54:∀x,(E54 x).length=1:=λ_=>rfl
theorem el59:∀x,(E59 x).length=7:=λ_=>rfl
theorem el65:∀x,(E65 x).length=3:=λ_=>rfl
theorem el67:∀x,(E67 x).length=5:=λ_=>rfl
theorem el70:∀x,(E70 x).length=4:=λ_=>rfl
theorem el72:∀x,(E72 x).length=2:=λ_=>rfl
theorem el75:∀x,(E75 x).length=2:=λ_=>rfl
theorem el80:∀x,(E80 x).length=9:=λx=>by rw[dW];rfl
theorem el83:∀x,(E83 x).length=4:=λ_=>rfl
theorem el93:∀x,(E93 x).length=3:=λ_=>rfl
theorem el118:∀x,(cP x).length=3:=λ_=>rfl
theorem el121:∀x,(aU x).length=2:=λ_=>rfl
theorem el128:∀x,(ef x).length=5:=λ_=>rfl
theorem rd3{H:Type}{enc:TypeId×Value->H}{W:World}{spare:Nat->Bool}{held:Bool}(fuel:Nat):Reads enc Tryz.prog W spare held fuel 3 E3 (λn:Int=>i64.min<=n/\n<=i64.max):=(aI Tryz.underlying3 fuel)
theorem rd54{H:Type}{enc:TypeId×Value->H}{W:World}{spare:Nat->Bool}{held:Bool}(fuel:Nat):Reads enc Tryz.prog W spare held fuel 54 E54 (λL:List Int=>(∀x∈L,(λn:Int=>i64.min<=n/\n<=i64.max) x)/\L.length<=maxLen):=(bh Tryz.underlying54 cs3 dC el3 λf hf=>rd3 f)
theorem rd59{H:Type}{enc:TypeId×Value->H}{W:World}{spare:Nat->Bool}{held:Bool}(fuel:Nat):Reads enc Tryz.prog W spare held fuel 59 E59 ik.ok:=by
 induction fuel using Nat.strongRecOn with
 |_ fuel ih=>
 cases fuel with
 |zero=>exact Reads.zero
 |succ fuel=>
 refine bF Tryz.underlying59 cs59 (λcs hl h=>?_);obtain⟨y0,hy0⟩:=h 0 _ rfl;obtain⟨x0,r0,g0⟩:=(aI Tryz.underlying57 fuel) _ _ hy0;simp only[cs57] at r0;obtain⟨y1,hy1⟩:=h 1 _ rfl;obtain⟨x1,r1,g1⟩:=(aI Tryz.underlying3 fuel) _ _ hy1;simp only[cs3] at r1;obtain⟨y2,hy2⟩:=h 2 _ rfl;obtain⟨x2,r2,g2⟩:=(aI Tryz.underlying3 fuel) _ _ hy2;simp only[cs3] at r2;obtain⟨y3,hy3⟩:=h 3 _ rfl;obtain⟨x3,r3,g3⟩:=(aI Tryz.underlying3 fuel) _ _ hy3;simp only[cs3] at r3;obtain⟨y4,hy4⟩:=h 4 _ rfl;obtain⟨x4,r4,g4⟩:=(aI Tryz.underlying2 fuel) _ _ hy4;simp only[cs2] at r4;obtain⟨y5,hy5⟩:=h 5 _ rfl;obtain⟨x5,r5,g5⟩:=(aI Tryz.underlying2 fuel) _ _ hy5;simp only[cs2] at r5;obtain⟨y6,hy6⟩:=h 6 _ rfl;obtain⟨x6,r6,g6⟩:=(aI Tryz.underlying3 fuel) _ _ hy6;simp only[cs3] at r6;exact⟨aJ.mk x0 x1 x2 x3 x4 x5 x6,(by exact(ar r0 rfl (ar r1 rfl (ar r2 rfl (ar r3 rfl (ar r4 rfl (ar r5 rfl (ar r6 rfl (cH hl))))))))),⟨u8r g0,dc g1,dc g2,dc g3,dc g4,dc g5,dc g6⟩⟩
theorem rd83{H:Type}{enc:TypeId×Value->H}{W:World}{spare:Nat->Bool}{held:Bool}(fuel:Nat):Reads enc Tryz.prog W spare held fuel 83 E83 iT.ok:=by
 induction fuel using Nat.strongRecOn with
 |_ fuel ih=>
 cases fuel with
 |zero=>exact Reads.zero
 |succ fuel=>
 refine bF Tryz.underlying83 cs83 (λcs hl h=>?_);obtain⟨y0,hy0⟩:=h 0 _ rfl;obtain⟨x0,r0,g0⟩:=(aI Tryz.underlying3 fuel) _ _ hy0;simp only[cs3] at r0;obtain⟨y1,hy1⟩:=h 1 _ rfl;obtain⟨x1,r1,g1⟩:=(aI Tryz.underlying3 fuel) _ _ hy1;simp only[cs3] at r1;obtain⟨y2,hy2⟩:=h 2 _ rfl;obtain⟨x2,r2,g2⟩:=(aI Tryz.underlying3 fuel) _ _ hy2;simp only[cs3] at r2;obtain⟨y3,hy3⟩:=h 3 _ rfl;obtain⟨x3,r3,g3⟩:=(kF Tryz.underlying4 fuel) _ _ hy3;simp only[cs4] at r3;exact⟨ak.mk x0 x1 x2 x3,(by exact(ar r0 rfl (ar r1 rfl (ar r2 rfl (ar r3 rfl (cH hl)))))),⟨dc g0,dc g1,dc g2,trivial⟩⟩
theorem rd118{H:Type}{enc:TypeId×Value->H}{W:World}{spare:Nat->Bool}{held:Bool}(fuel:Nat):Reads enc Tryz.prog W spare held fuel 118 cP iN.ok:=by
 induction fuel using Nat.strongRecOn with
 |_ fuel ih=>
 cases fuel with
 |zero=>exact Reads.zero
 |succ fuel=>
 refine bF Tryz.underlying118 wP (λcs hl h=>?_);obtain⟨y0,hy0⟩:=h 0 _ rfl;obtain⟨x0,r0,g0⟩:=(aI Tryz.underlying3 fuel) _ _ hy0;simp only[cs3] at r0;obtain⟨y1,hy1⟩:=h 1 _ rfl;obtain⟨x1,r1,g1⟩:=(aI Tryz.underlying3 fuel) _ _ hy1;simp only[cs3] at r1;obtain⟨y2,hy2⟩:=h 2 _ rfl;obtain⟨x2,r2,g2⟩:=(aI Tryz.underlying2 fuel) _ _ hy2;simp only[cs2] at r2;exact⟨Loop.mk x0 x1 x2,(by exact(ar r0 rfl (ar r1 rfl (ar r2 rfl (cH hl))))),⟨dc g0,dc g1,dc g2⟩⟩
theorem rd128{H:Type}{enc:TypeId×Value->H}{W:World}{spare:Nat->Bool}{held:Bool}(fuel:Nat):Reads enc Tryz.prog W spare held fuel 128 ef ja.ok:=by
 induction fuel using Nat.strongRecOn with
 |_ fuel ih=>
 cases fuel with
 |zero=>exact Reads.zero
 |succ fuel=>
 refine bF Tryz.underlying128 wN (λcs hl h=>?_);obtain⟨y0,hy0⟩:=h 0 _ rfl;obtain⟨x0,r0,g0⟩:=(aI Tryz.underlying126 fuel) _ _ hy0;simp only[cs126] at r0;obtain⟨y1,hy1⟩:=h 1 _ rfl;obtain⟨x1,r1,g1⟩:=(aI Tryz.underlying3 fuel) _ _ hy1;simp only[cs3] at r1;obtain⟨y2,hy2⟩:=h 2 _ rfl;obtain⟨x2,r2,g2⟩:=(aI Tryz.underlying3 fuel) _ _ hy2;simp only[cs3] at r2;obtain⟨y3,hy3⟩:=h 3 _ rfl;obtain⟨x3,r3,g3⟩:=(aI Tryz.underlying3 fuel) _ _ hy3;simp only[cs3] at r3;obtain⟨y4,hy4⟩:=h 4 _ rfl;obtain⟨x4,r4,g4⟩:=(aI Tryz.underlying3 fuel) _ _ hy4;simp only[cs3] at r4;exact⟨be.mk x0 x1 x2 x3 x4,(by exact(ar r0 rfl (ar r1 rfl (ar r2 rfl (ar r3 rfl (ar r4 rfl (cH hl))))))),⟨u8r g0,dc g1,dc g2,dc g3,dc g4⟩⟩
theorem rd65{H:Type}{enc:TypeId×Value->H}{W:World}{spare:Nat->Bool}{held:Bool}(fuel:Nat):Reads enc Tryz.prog W spare held fuel 65 E65 gP.ok:=by
 induction fuel using Nat.strongRecOn with
 |_ fuel ih=>
 cases fuel with
 |zero=>exact Reads.zero
 |succ fuel=>
 refine bF Tryz.underlying65 cs65 (λcs hl h=>?_);obtain⟨y0,hy0⟩:=h 0 _ rfl;obtain⟨x0,r0,g0⟩:=(bh Tryz.underlying63 wN dC el128 λf hf=>rd128 f) _ _ hy0;simp only[cs63] at r0;obtain⟨y1,hy1⟩:=h 1 _ rfl;obtain⟨x1,r1,g1⟩:=(aI Tryz.underlying3 fuel) _ _ hy1;simp only[cs3] at r1;obtain⟨y2,hy2⟩:=h 2 _ rfl;obtain⟨x2,r2,g2⟩:=(aI Tryz.underlying3 fuel) _ _ hy2;simp only[cs3] at r2;exact⟨az.mk x0 x1 x2,(by exact(ar r0 rfl (ar r1 rfl (ar r2 rfl (cH hl))))),⟨⟨ltm g0.2,g0.1⟩,dc g1,dc g2⟩⟩
theorem rd67{H:Type}{enc:TypeId×Value->H}{W:World}{spare:Nat->Bool}{held:Bool}(fuel:Nat):Reads enc Tryz.prog W spare held fuel 67 E67 gq.ok:=by
 induction fuel using Nat.strongRecOn with
 |_ fuel ih=>
 cases fuel with
 |zero=>exact Reads.zero
 |succ fuel=>
 refine bF Tryz.underlying67 cs67 (λcs hl h=>?_);obtain⟨y0,hy0⟩:=h 0 _ rfl;obtain⟨x0,r0,g0⟩:=(aI Tryz.underlying3 fuel) _ _ hy0;simp only[cs3] at r0;obtain⟨y1,hy1⟩:=h 1 _ rfl;obtain⟨x1,r1,g1⟩:=(aI Tryz.underlying2 fuel) _ _ hy1;simp only[cs2] at r1;obtain⟨y2,hy2⟩:=h 2 _ rfl;obtain⟨x2,r2,g2⟩:=(aI Tryz.underlying2 fuel) _ _ hy2;simp only[cs2] at r2;obtain⟨y3,hy3⟩:=h 3 _ rfl;obtain⟨x3,r3,g3⟩:=(kF Tryz.underlying4 fuel) _ _ hy3;simp only[cs4] at r3;obtain⟨y4,hy4⟩:=h 4 _ rfl;obtain⟨x4,r4,g4⟩:=(bh Tryz.underlying54 cs3 dC el3 λf hf=>rd3 f) _ _ hy4;simp only[wc] at r4;exact⟨Obj.mk x0 x1 x2 x3 x4,(by exact(ar r0 rfl (ar r1 rfl (ar r2 rfl (ar r3 rfl (ar r4 rfl (cH hl))))))),⟨dc g0,dc g1,dc g2,trivial,lir g4⟩⟩
theorem rd93{H:Type}{enc:TypeId×Value->H}{W:World}{spare:Nat->Bool}{held:Bool}(fuel:Nat):Reads enc Tryz.prog W spare held fuel 93 E93 im.ok:=by
 induction fuel using Nat.strongRecOn with
 |_ fuel ih=>
 cases fuel with
 |zero=>exact Reads.zero
 |succ fuel=>
 refine bF Tryz.underlying93 cs93 (λcs hl h=>?_);obtain⟨y0,hy0⟩:=h 0 _ rfl;obtain⟨x0,r0,g0⟩:=(aI Tryz.underlying3 fuel) _ _ hy0;simp only[cs3] at r0;obtain⟨y1,hy1⟩:=h 1 _ rfl;obtain⟨x1,r1,g1⟩:=(aI Tryz.underlying3 fuel) _ _ hy1;simp only[cs3] at r1;obtain⟨y2,hy2⟩:=h 2 _ rfl;obtain⟨x2,r2,g2⟩:=(aI Tryz.underlying2 fuel) _ _ hy2;simp only[cs2] at r2;exact⟨bq.mk x0 x1 x2,(by exact(ar r0 rfl (ar r1 rfl (ar r2 rfl (cH hl))))),⟨dc g0,dc g1,dc g2⟩⟩
theorem rd72{H:Type}{enc:TypeId×Value->H}{W:World}{spare:Nat->Bool}{held:Bool}(fuel:Nat):Reads enc Tryz.prog W spare held fuel 72 E72 jC.ok:=by
 induction fuel using Nat.strongRecOn with
 |_ fuel ih=>
 cases fuel with
 |zero=>exact Reads.zero
 |succ fuel=>
 refine bF Tryz.underlying72 cs72 (λcs hl h=>?_);obtain⟨y0,hy0⟩:=h 0 _ rfl;obtain⟨x0,r0,g0⟩:=(bh Tryz.underlying54 cs3 dC el3 λf hf=>rd3 f) _ _ hy0;simp only[wc] at r0;obtain⟨y1,hy1⟩:=h 1 _ rfl;obtain⟨x1,r1,g1⟩:=(bh Tryz.underlying54 cs3 dC el3 λf hf=>rd3 f) _ _ hy1;simp only[wc] at r1;exact⟨aB.mk x0 x1,(by exact(ar r0 rfl (ar r1 rfl (cH hl)))),⟨lir g0,lir g1⟩⟩
theorem rd70{H:Type}{enc:TypeId×Value->H}{W:World}{spare:Nat->Bool}{held:Bool}(fuel:Nat):Reads enc Tryz.prog W spare held fuel 70 E70 gg.ok:=by
 induction fuel using Nat.strongRecOn with
 |_ fuel ih=>
 cases fuel with
 |zero=>exact Reads.zero
 |succ fuel=>
 refine bF Tryz.underlying70 cs70 (λcs hl h=>?_);obtain⟨y0,hy0⟩:=h 0 _ rfl;obtain⟨x0,r0,g0⟩:=(aI Tryz.underlying3 fuel) _ _ hy0;simp only[cs3] at r0;obtain⟨y1,hy1⟩:=h 1 _ rfl;obtain⟨x1,r1,g1⟩:=(aI Tryz.underlying3 fuel) _ _ hy1;simp only[cs3] at r1;obtain⟨y2,hy2⟩:=h 2 _ rfl;obtain⟨x2,r2,g2⟩:=(bh Tryz.underlying68 cs72 dC el72 λf hf=>rd72 f) _ _ hy2;simp only[cs68] at r2;obtain⟨y3,hy3⟩:=h 3 _ rfl;obtain⟨x3,r3,g3⟩:=(aI Tryz.underlying2 fuel) _ _ hy3;simp only[cs2] at r3;exact⟨aK.mk x0 x1 x2 x3,(by exact(ar r0 rfl (ar r1 rfl (ar r2 rfl (ar r3 rfl (cH hl)))))),⟨dc g0,dc g1,⟨ltm g2.2,g2.1⟩,dc g3⟩⟩
theorem rd80{H:Type}{enc:TypeId×Value->H}{W:World}{spare:Nat->Bool}{held:Bool}(fuel:Nat):Reads enc Tryz.prog W spare held fuel 80 E80 RgE:=by
 induction fuel using Nat.strongRecOn with
 |_ fuel ih=>
 cases fuel with
 |zero=>exact Reads.zero
 |succ fuel=>
 refine bF Tryz.underlying80 yf (λcs hl h=>?_);obtain⟨y0,hy0⟩:=h 0 _ rfl;obtain⟨x0,r0,g0⟩:=(aI Tryz.underlying77 fuel) _ _ hy0;simp only[cs77] at r0;obtain⟨y1,hy1⟩:=h 1 _ rfl;obtain⟨x1,r1,g1⟩:=(aI Tryz.underlying78 fuel) _ _ hy1;simp only[cs78] at r1;obtain⟨y2,hy2⟩:=h 2 _ rfl;obtain⟨x2,r2,g2⟩:=(aI Tryz.underlying2 fuel) _ _ hy2;simp only[cs2] at r2;obtain⟨y3,hy3⟩:=h 3 _ rfl;obtain⟨x3,r3,g3⟩:=(aI Tryz.underlying3 fuel) _ _ hy3;simp only[cs3] at r3;obtain⟨y4,hy4⟩:=h 4 _ rfl;obtain⟨x4,r4,g4⟩:=(aI Tryz.underlying3 fuel) _ _ hy4;simp only[cs3] at r4;obtain⟨y5,hy5⟩:=h 5 _ rfl;obtain⟨x5,r5,g5⟩:=(aI Tryz.underlying3 fuel) _ _ hy5;simp only[cs3] at r5;obtain⟨y6,hy6⟩:=h 6 _ rfl;obtain⟨x6,r6,g6⟩:=(aI Tryz.underlying2 fuel) _ _ hy6;simp only[cs2] at r6;obtain⟨y7,hy7⟩:=h 7 _ rfl;obtain⟨x7,r7,g7⟩:=(aI Tryz.underlying2 fuel) _ _ hy7;simp only[cs2] at r7;obtain⟨y8,hy8⟩:=h 8 _ rfl;obtain⟨x8,r8,g8⟩:=(bh Tryz.underlying73 yf dC el80 λf hf=>ih f oM) _ _ hy8;simp only[cs73] at r8;exact⟨ae.mk x0 x1 x2 x3 x4 x5 x6 x7 x8,(by rw[dW];exact(ar r0 rfl (ar r1 rfl (ar r2 rfl (ar r3 rfl (ar r4 rfl (ar r5 rfl (ar r6 rfl (ar r7 rfl (ar r8 rfl (cH hl))))))))))),yn ⟨u8r g0,u8r g1,dc g2,dc g3,dc g4,dc g5,dc g6,dc g7⟩ (ltm g8.2) g8.1⟩
theorem rd75{H:Type}{enc:TypeId×Value->H}{W:World}{spare:Nat->Bool}{held:Bool}(fuel:Nat):Reads enc Tryz.prog W spare held fuel 75 E75 (λp:aT=>aY.ok p.ceiling/\p.barriers.length<9223372036854775808/\∀e∈p.barriers,RgE e):=by
 induction fuel using Nat.strongRecOn with
 |_ fuel ih=>
 cases fuel with
 |zero=>exact Reads.zero
 |succ fuel=>
 refine bF Tryz.underlying75 cs75 (λcs hl h=>?_);obtain⟨y0,hy0⟩:=h 0 _ rfl;obtain⟨x0,r0,g0⟩:=(aI Tryz.underlying3 fuel) _ _ hy0;simp only[cs3] at r0;obtain⟨y1,hy1⟩:=h 1 _ rfl;obtain⟨x1,r1,g1⟩:=(bh Tryz.underlying73 yf dC el80 λf hf=>rd80 f) _ _ hy1;simp only[cs73] at r1;exact⟨aT.mk x0 x1,(by exact(ar r0 rfl (ar r1 rfl (cH hl)))),⟨dc g0,ltm g1.2,g1.1⟩⟩
theorem rd121{H:Type}{enc:TypeId×Value->H}{W:World}{spare:Nat->Bool}{held:Bool}(fuel:Nat):Reads enc Tryz.prog W spare held fuel 121 aU gQ.ok:=by
 induction fuel using Nat.strongRecOn with
 |_ fuel ih=>
 cases fuel with
 |zero=>exact Reads.zero
 |succ fuel=>
 refine bF Tryz.underlying121 wO (λcs hl h=>?_);obtain⟨y0,hy0⟩:=h 0 _ rfl;obtain⟨x0,r0,g0⟩:=(aI Tryz.underlying3 fuel) _ _ hy0;simp only[cs3] at r0;obtain⟨y1,hy1⟩:=h 1 _ rfl;obtain⟨x1,r1,g1⟩:=(aI Tryz.underlying119 fuel) _ _ hy1;simp only[cs119] at r1;exact⟨bf.mk x0 x1,(by exact(ar r0 rfl (ar r1 rfl (cH hl)))),⟨dc g0,u8r g1⟩⟩
theorem rd33{H:Type}{enc:TypeId×Value->H}{W:World}{spare:Nat->Bool}{held:Bool}(fuel:Nat):Reads enc Tryz.prog W spare held fuel 33 E33 RgT:=by
 induction fuel using Nat.strongRecOn with
 |_ fuel ih=>
 cases fuel with
 |zero=>exact Reads.zero
 |succ fuel=>
 refine bF Tryz.underlying33 cs33 (λcs hl h=>?_);obtain⟨y0,hy0⟩:=h 0 _ rfl;obtain⟨x0,r0,g0⟩:=(bh Tryz.underlying22 cs59 dC el59 λf hf=>rd59 f) _ _ hy0;simp only[cs22] at r0;obtain⟨y1,hy1⟩:=h 1 _ rfl;obtain⟨x1,r1,g1⟩:=(bh Tryz.underlying23 cs83 dC el83 λf hf=>rd83 f) _ _ hy1;simp only[cs23] at r1;obtain⟨y2,hy2⟩:=h 2 _ rfl;obtain⟨x2,r2,g2⟩:=(bh Tryz.underlying24 wP dC el118 λf hf=>rd118 f) _ _ hy2;simp only[cs24] at r2;obtain⟨y3,hy3⟩:=h 3 _ rfl;obtain⟨x3,r3,g3⟩:=(bh Tryz.underlying25 cs65 dC el65 λf hf=>rd65 f) _ _ hy3;simp only[cs25] at r3;obtain⟨y4,hy4⟩:=h 4 _ rfl;obtain⟨x4,r4,g4⟩:=(bh Tryz.underlying26 wc dC el54 λf hf=>rd54 f) _ _ hy4;simp only[cs26] at r4;obtain⟨y5,hy5⟩:=h 5 _ rfl;obtain⟨x5,r5,g5⟩:=(bh Tryz.underlying27 cs67 dC el67 λf hf=>rd67 f) _ _ hy5;simp only[cs27] at r5;obtain⟨y6,hy6⟩:=h 6 _ rfl;obtain⟨x6,r6,g6⟩:=(bh Tryz.underlying28 cs93 dC el93 λf hf=>rd93 f) _ _ hy6;simp only[cs28] at r6;obtain⟨y7,hy7⟩:=h 7 _ rfl;obtain⟨x7,r7,g7⟩:=(aI Tryz.underlying3 fuel) _ _ hy7;simp only[cs3] at r7;obtain⟨y8,hy8⟩:=h 8 _ rfl;obtain⟨x8,r8,g8⟩:=(bh Tryz.underlying29 cs70 dC el70 λf hf=>rd70 f) _ _ hy8;simp only[cs29] at r8;obtain⟨y9,hy9⟩:=h 9 _ rfl;obtain⟨x9,r9,g9⟩:=(bh Tryz.underlying30 cs75 dC el75 λf hf=>rd75 f) _ _ hy9;simp only[cs30] at r9;obtain⟨y10,hy10⟩:=h 10 _ rfl;obtain⟨x10,r10,g10⟩:=(bh Tryz.underlying31 wO dC el121 λf hf=>rd121 f) _ _ hy10;simp only[cs31] at r10;exact⟨aC.mk x0 x1 x2 x3 x4 x5 x6 x7 x8 x9 x10,(by exact(ar r0 rfl (ar r1 rfl (ar r2 rfl (ar r3 rfl (ar r4 rfl (ar r5 rfl (ar r6 rfl (ar r7 rfl (ar r8 rfl (ar r9 rfl (ar r10 rfl (cH hl))))))))))))),⟨⟨⟨ltm g0.2,g0.1⟩,⟨ltm g1.2,g1.1⟩,⟨ltm g2.2,g2.1⟩,⟨ltm g3.2,g3.1⟩,⟨ltm g4.2,λl hl=>lir (g4.1 l hl)⟩⟩,⟨ltm g5.2,g5.1⟩,⟨ltm g6.2,g6.1⟩,dc g7,⟨ltm g8.2,g8.1⟩,⟨ltm g9.2,g9.1⟩,⟨ltm g10.2,g10.1⟩⟩⟩
theorem cs5:Tryz.prog.cellsOf 5=1:=by kernel_rfl
theorem el5:∀x,(E5 x).length=1:=λ_=>rfl
theorem rd5{H:Type}{enc:TypeId×Value->H}{W:World}{spare:Nat->Bool}{held:Bool}(fuel:Nat):Reads enc Tryz.prog W spare held fuel 5 E5 (λn:Int=>IntKind.u8.min<=n/\n<=IntKind.u8.max):=(aI Tryz.underlying5 fuel)
end Go.Proofs.YtejcfgjpdocaoaaGreatDoor
