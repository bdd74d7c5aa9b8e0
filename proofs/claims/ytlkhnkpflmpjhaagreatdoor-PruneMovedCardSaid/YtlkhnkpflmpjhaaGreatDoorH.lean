/- Part of the proof. -/
import Derived.Test.YtlkhnkpflmpjhaaGreatDoorH0
import Derived.Test.YtlkhnkpflmpjhaaGreatDoorH1
import Derived.Test.YtlkhnkpflmpjhaaGreatDoorH2
import Derived.Test.YtlkhnkpflmpjhaaGreatDoorH3
set_option linter.unusedVariables false
set_option linter.unusedSimpArgs false
set_option linter.unusedSectionVars false
set_option linter.unnecessarySimpa false
set_option maxRecDepth 1000000
set_option maxHeartbeats 4000000
namespace Go.Sk
open Go
def NTok(P:Program):NT Func→Prop
 | .lf=>True
 | .nd k v l r=>P.funcs[k]? =some v∧NTok P l∧NTok P r
theorem NTok.get{P:Program}:∀{t:NT Func},NTok P t→∀{f:Nat}{fn:Func},t.get f=some fn→P.funcs[f]? =some fn
 | .lf,_,f,fn,h=>by cases h
 | .nd k v l r,⟨h1,h2,h3⟩,f,fn,h=>by
  unfold NT.get at h
  cases hb:Nat.beq f k with
  |true=>
   rw[hb] at h
   obtain rfl:=nbE hb
   obtain rfl:=inS h
   exact h1
  |false=>
   rw[hb] at h
   simp only[cdF] at h
   cases hc:Nat.blt f k with
   |true=>rw[hc] at h;exact NTok.get h2 h
   |false=>rw[hc] at h;exact NTok.get h3 h
end Go.Sk
namespace Go.Proofs.YtlkhnkpflmpjhaaGreatDoor
open Go Go.Sk
theorem rI:NTok Tryz.prog fTt:=by
 unfold fTt
 simp only[NTok]
 repeat' first|exact trivial|kernel_rfl|constructor
theorem fT_ok(f:Nat)(fn:Func)(h:fT f=some fn):Tryz.prog.funcs[f]? =some fn:=NTok.get rI h
def Zc(m:MT):Prop:=Ctr Tryz.prog m.1 m.2.1 m.2.2.1 (λr s=>r=m.2.2.2.1∧s=m.2.2.2.2)
section
variable(hM:∀p∈qb,Pu Tryz.prog p.1 p.2.1 p.2.2)
include hM
theorem zc{l:List MT}{m:MT}(h:HRn l m=HRr m)(hl:∀p∈l,Zc p):Zc m:=
 (mm ty_ok fT_ok (rh (nY (oh hl)) (nY (nU rt (nU (oe hM) rq)))) qi 24 _ _ _ _ h).imp λr s hq=>by simpa using hq
omit hM in
theorem zn:∀p∈([]:List MT),Zc p:=λ_ h=>by cases h
omit hM in
theorem zs{m:MT}{l:List MT}(h:Zc m)(hl:∀p∈l,Zc p):∀p∈m::l,Zc p:=List.forall_mem_cons.2 ⟨h,hl⟩
theorem zm0:Zc mm0:=zc hM hm0 zn
theorem zm1:Zc mm1:=zc hM hm1 zn
theorem zm2:Zc mm2:=zc hM hm2 zn
theorem zm3:Zc mm3:=zc hM hm3 zn
theorem zm4:Zc mm4:=zc hM hm4 zn
theorem zm5:Zc mm5:=zc hM hm5 (zs (zm1 hM) (zs (zm2 hM) (zs (zm3 hM) (zs (zm4 hM) zn))))
theorem zm6:Zc mm6:=zc hM hm6 zn
theorem zm7:Zc mm7:=zc hM hm7 zn
theorem zm8:Zc mm8:=zc hM hm8 zn
theorem zm9:Zc mm9:=zc hM hm9 zn
theorem zm10:Zc p8:=zc hM hm10 (zs (zm6 hM) (zs (zm7 hM) (zs (zm8 hM) (zs (zm9 hM) zn))))
theorem zm11:Zc p7:=zc hM hm11 (zs (zm5 hM) (zs (zm10 hM) zn))
theorem zm12:Zc pZ:=zc hM hm12 (zs (zm11 hM) zn)
theorem zm13:Zc pY:=zc hM hm13 zn
theorem zm14:Zc pX:=zc hM hm14 (zs (zm12 hM) (zs (zm13 hM) zn))
theorem zm15:Zc pW:=zc hM hm15 zn
theorem zm16:Zc pV:=zc hM hm16 zn
theorem zm17:Zc pU:=zc hM hm17 zn
theorem zm18:Zc pT:=zc hM hm18 (zs (zm16 hM) (zs (zm17 hM) zn))
theorem zm19:Zc pS:=zc hM hm19 zn
theorem zm20:Zc pR:=zc hM hm20 zn
theorem zm21:Zc pQ:=zc hM hm21 (zs (zm19 hM) (zs (zm20 hM) zn))
theorem zm22:Zc pP:=zc hM hm22 (zs (zm18 hM) (zs (zm21 hM) zn))
theorem zm23:Zc pO:=zc hM hm23 (zs (zm22 hM) zn)
theorem zm24:Zc pN:=zc hM hm24 zn
theorem zm25:Zc pM:=zc hM hm25 (zs (zm23 hM) (zs (zm24 hM) zn))
theorem zm26:Zc pL:=zc hM hm26 zn
theorem zm27:Zc pK:=zc hM hm27 (zs (zm26 hM) zn)
theorem zm28:Zc pJ:=zc hM hm28 zn
theorem zm29:Zc pI:=zc hM hm29 (zs (zm27 hM) (zs (zm28 hM) zn))
theorem zm30:Zc pH:=zc hM hm30 zn
theorem zm31:Zc pG:=zc hM hm31 zn
theorem zm32:Zc pF:=zc hM hm32 zn
theorem zm33:Zc pE:=zc hM hm33 (zs (zm31 hM) (zs (zm32 hM) zn))
theorem zm34:Zc pD:=zc hM hm34 (zs (zm0 hM) (zs (zm14 hM) (zs (zm15 hM) (zs (zm25 hM) (zs (zm29 hM) (zs (zm30 hM) (zs (zm33 hM) zn)))))))
theorem qg:Pu Tryz.prog 5 [] (.v (.bool true)):=mX (st':=pD.2.2.2.2) (zm34 hM)
end
set_option maxRecDepth 100000
def hxT(l:List cQ):gp:=⟨l,[],[],[],[],[],[],4,[⟨0,0,[],0⟩],[],[]⟩
def hx0:gp:=⟨[],[],[],[],[],[],[],0,[],[],[]⟩
def hx1:gp:=hxT [⟨38,1,0,0,0,0,0⟩,⟨27,0,1,0,0,9,0⟩,⟨57,0,0,0,0,0,0⟩]
def hx2:gp:=hxT [⟨38,1,0,0,0,0,0⟩,⟨27,0,1,0,0,9,0⟩,⟨30,0,1,0,0,0,2⟩,⟨57,0,0,0,0,0,0⟩]
def hx3:gp:=hxT [⟨38,1,0,0,0,0,0⟩,⟨27,0,1,0,0,9,0⟩,⟨27,0,1,0,0,9,0⟩,⟨30,0,1,0,0,0,2⟩,⟨57,0,0,0,0,0,0⟩]
theorem may0:f23 hx0=some false:=by decide+kernel
theorem may1:f23 hx1=some true:=by decide+kernel
theorem may2:f23 hx2=some true:=by decide+kernel
theorem may3:f23 hx3=some true:=by decide+kernel
theorem qa:∀p∈qb,Pu Tryz.prog p.1 p.2.1 p.2.2:=by
 intro p hp
 simp only[qb,List.mem_cons,List.not_mem_nil,or_false] at hp
 rcases hp with rfl|rfl|rfl|rfl
 ·exact f23_c hx0 may0
 ·exact f23_c hx1 may1
 ·exact f23_c hx2 may2
 ·exact f23_c hx3 may3
theorem qh:Pu Tryz.prog 5 [] (.v (.bool true)):=qg qa
end Go.Proofs.YtlkhnkpflmpjhaaGreatDoor
