/- What the arguments read asz; what is laid. -/
import Derived.Test.YtpodhdopgcedlaaGreatDoorRows
import Derived.Test.YtpodhdopgcedlaaGreatDoorX
import Derived.Test.YtpodhdopgcedlaaGreatDoorL
set_option linter.unusedVariables false
set_option linter.unusedSimpArgs false
set_option linter.unusedSectionVars false
set_option linter.unnecessarySimpa false
set_option maxRecDepth 100000
namespace Go.Proofs.YtpodhdopgcedlaaGreatDoor
open Go Go.Sk
open Go.ChangeShapes Go.WideShapes Go.ChangeAt Go.RowKit
theorem Tryz.own:ownKnob Tryz.prog.godebug=none:=by kernel_rfl
theorem nm:laidOutB Tryz.prog=true:=by kernel_rfl
abbrev n8:List (String×DataW Unit):=[("unicode.White_Space",Rows.laid_unicode_White_Space),("strings.asciiSpace",Rows.laid_strings_asciiSpace),("ceiling/insn.rows",Rows.laid_ceiling_insn_rows)]
theorem tQ(os:Os)(args:Array Value):laidMetH Tryz.prog n8 ((World.doorLaid Tryz.prog 400 os).forCall (λ_ _=>0) ⟨#[],args,[]⟩).memory:=
 laidMetH_of_parts3 (fuel:=8) (laidMet_of_run' 8 kR kR) kR kR
theorem pN{W:World}(h:laidMetH Tryz.prog n8 W):Gl (aw W) W:=by
 rw[MakeChecks.laidMetH_plain _ _ _ kR] at h
 obtain⟨ps,⟨g0,t0,cs0,f0,p0,q0,hg0,ht0,hv0,hd0,⟨g1,t1,cs1,f1,p1,q1,hg1,ht1,hv1,hd1,⟨g2,t2,cs2,f2,p2,q2,hg2,ht2,hv2,hd2,_,_⟩,_⟩,_⟩,_,_⟩:=h
 obtain rfl:=inS ((show Tryz.prog.globalNamed "strings.asciiSpace"=some 1 by kernel_rfl).symm.trans hg1)
 obtain rfl:=inS ((show(Tryz.prog.globals[1]?).map (·.type)=some 237 by kernel_rfl).symm.trans ht1)
 have e1:(Rows.laid_strings_asciiSpace:DataW Unit)=(DataW.agg (cE.map λn=>DataW.lit (Lit.int .u8 n)):DataW Unit):=by kernel_rfl
 rw[e1] at hd1
 have r1:=pw Tryz.underlying237 Tryz.underlying5 kR kR hg1 hv1 hd1
 obtain rfl:=inS ((show Tryz.prog.globalNamed "ceiling/insn.rows"=some 0 by kernel_rfl).symm.trans hg2)
 obtain rfl:=inS ((show(Tryz.prog.globals[0]?).map (·.type)=some 225 by kernel_rfl).symm.trans ht2)
 have e2:(Rows.laid_ceiling_insn_rows:DataW Unit)=(DataW.agg (mK.map λp=>DataW.agg [DataW.lit (Lit.string p.1.data.toList),DataW.lit (Lit.string p.2.data.toList)]):DataW Unit):=by kernel_rfl
 rw[e2] at hd2
 have r2:=lc Tryz.underlying225 Tryz.underlying204 rfl rfl rfl rfl Tryz.underlying9 kR kR kR hg2 hv2 hd2
 intro g ps hps
 cases g with
 |zero=>
  simp only[gpc,ai] at hps
  subst hps
  exact r2
 |succ g=>
  cases g with
  |zero=>
   simp only[gpc,ai] at hps
   subst hps
   exact r1
  |succ g=>simp[gpc] at hps
theorem ltr{n b:Nat}(hb:0<b)(h:n*b≤reachBytes):n<1125899906842624:=by
 have h1:=reachBytes_lt
 have h2:=Nat.le_mul_of_pos_right n hb
 omega
theorem cs3:Tryz.prog.cellsOf 3=1:=by kernel_rfl
theorem cs43:Tryz.prog.cellsOf 43=1:=by kernel_rfl
theorem cs55:Tryz.prog.cellsOf 55=3:=by kernel_rfl
theorem el3:∀x,(E3 x).length=1:=λ_=>rfl
theorem el55:∀x,(E55 x).length=3:=λ_=>rfl
theorem rd3{H:Type}{enc:TypeId×Value→H}{W:World}{spare:Nat→Bool}{held:Bool}(fuel:Nat):Reads enc Tryz.prog W spare held fuel 3 E3 (λn:Int=>IntKind.i64.min≤n∧n≤IntKind.i64.max):=(gz Tryz.underlying3 fuel)
theorem bo3:Tryz.prog.bytesOf 3=8:=by kernel_rfl
theorem bo55:Tryz.prog.bytesOf 55=40:=by kernel_rfl
theorem rs43{H:Type}{enc:TypeId×Value→H}{W:World}{spare:Nat→Bool}{held:Bool}:∀fuel:Nat,ReadsS enc Tryz.prog W spare held fuel 43 (λL:List Int=> [.sl (L.map E3)]) (λL=>(∀x∈L,(λn:Int=>IntKind.i64.min≤n∧n≤IntKind.i64.max) x)∧L.length*8≤reachBytes)
 |0=>ReadsS.zero
 |fuel+1=>mL Tryz.underlying43 cs3 dC bo3 el3 (rd3 fuel)
theorem rs55{H:Type}{enc:TypeId×Value→H}{W:World}{spare:Nat→Bool}{held:Bool}(fuel:Nat):ReadsS enc Tryz.prog W spare held fuel 55 E55 (λb:ac=>b.next.length<1125899906842624):=by
 cases fuel with
 |zero=>exact ReadsS.zero
 |succ fuel=>
 refine li Tryz.underlying55 cs55 (λcs hl h=>?_)
 obtain⟨y0,hy0,w0⟩:=h 0 _ rfl
 obtain⟨x0,r0,g0⟩:=(gz Tryz.underlying3 fuel) _ _ hy0
 change RFs _ _ _ (List.take (Tryz.prog.cellsOf 3) (List.drop 0 cs)) at r0
 rw[cs3] at r0
 obtain⟨y1,hy1,w1⟩:=h 1 _ rfl
 obtain⟨x1,r1,g1⟩:=(gz Tryz.underlying3 fuel) _ _ hy1
 change RFs _ _ _ (List.take (Tryz.prog.cellsOf 3) (List.drop 1 cs)) at r1
 rw[cs3] at r1
 obtain⟨y2,hy2,w2⟩:=h 2 _ rfl
 obtain⟨x2,r2,g2⟩:=(rs43 fuel) _ _ hy2 w2
 change RFs _ _ _ (List.take (Tryz.prog.cellsOf 43) (List.drop 2 cs)) at r2
 rw[cs43] at r2
 exact⟨ac.mk x0 x1 x2,(by exact(jj r0 rfl (jj r1 rfl (jj r2 rfl (sL hl))))),ltr dC g2.2⟩
theorem rs36{H:Type}{enc:TypeId×Value→H}{W:World}{spare:Nat→Bool}{held:Bool}:∀fuel:Nat,ReadsS enc Tryz.prog W spare held fuel 36 (λL:List ac=> [.sl (L.map E55)]) (λL=>(∀x∈L,(λb:ac=>b.next.length<1125899906842624) x)∧L.length*40≤reachBytes)
 |0=>ReadsS.zero
 |fuel+1=>lj Tryz.underlying36 cs55 dC bo55 el55 (rs55 fuel)
theorem xt{L:List ac}(h:(∀x∈L,(λb:ac=>b.next.length<1125899906842624) x)∧L.length*40≤reachBytes):Fit L:=⟨ltr dC h.2,h.1⟩
end Go.Proofs.YtpodhdopgcedlaaGreatDoor
