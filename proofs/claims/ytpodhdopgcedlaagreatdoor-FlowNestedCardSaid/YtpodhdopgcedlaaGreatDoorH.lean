/- Part of the proof. -/
import Derived.KernelRfl
import Derived.Test.YtpodhdopgcedlaaGreatDoorH0
import Derived.Test.YtpodhdopgcedlaaGreatDoorH1
import Derived.Test.YtpodhdopgcedlaaGreatDoorL
set_option linter.unusedVariables false
set_option linter.unusedSimpArgs false
set_option linter.unusedSectionVars false
set_option linter.unnecessarySimpa false
set_option maxRecDepth 1000000
set_option maxHeartbeats 4000000
namespace Go.Sk
open Go
def NTok(P:Program):NT Func→Prop
 | .lf=>True
 | .nd k v l r=>P.funcs[k]? =some v∧NTok P l∧NTok P r
theorem NTok.get{P:Program}:∀{t:NT Func},NTok P t→∀{f:Nat}{fn:Func},t.get f=some fn→P.funcs[f]? =some fn
 | .lf,_,f,fn,h=>by cases h
 | .nd k v l r,⟨h1,h2,h3⟩,f,fn,h=>by
  unfold NT.get at h
  cases hb:Nat.beq f k with
  |true=>
   rw[hb] at h
   obtain rfl:=nbE hb
   obtain rfl:=inS h
   exact h1
  |false=>
   rw[hb] at h
   simp only[cdF] at h
   cases hc:Nat.blt f k with
   |true=>rw[hc] at h;exact NTok.get h2 h
   |false=>rw[hc] at h;exact NTok.get h3 h
end Go.Sk
namespace Go.Proofs.YtpodhdopgcedlaaGreatDoor
open Go Go.Sk
theorem wQ:NTok Tryz.prog fTt:=by
 unfold fTt
 simp only[NTok]
 repeat' first|exact trivial|kernel_rfl|constructor
theorem fT_ok(f:Nat)(fn:Func)(h:fT f=some fn):Tryz.prog.funcs[f]? =some fn:=NTok.get wQ h
def Zc(m:MT):Prop:=Ctr Tryz.prog m.1 m.2.1 m.2.2.1 (λr s=>r=m.2.2.2.1∧s=m.2.2.2.2)
section
variable(hM:∀p∈sf,Pu Tryz.prog p.1 p.2.1 p.2.2)
include hM
theorem zc{l:List MT}{m:MT}(h:HRn l m=HRr m)(hl:∀p∈l,Zc p):Zc m:=
 (p9 ty_ok fT_ok (wk (rY (sy hl)) (rY (oV wA (oV (sw hM) (oV (sx hM) wz))))) (uM _) 24 _ _ _ _ h).imp λr s hq=>by simpa using hq
omit hM in
theorem zn:∀p∈([]:List MT),Zc p:=λ_ h=>by cases h
omit hM in
theorem zs{m:MT}{l:List MT}(h:Zc m)(hl:∀p∈l,Zc p):∀p∈m::l,Zc p:=List.forall_mem_cons.2 ⟨h,hl⟩
theorem zm0:Zc mm0:=zc hM hm0 zn
theorem zm1:Zc mm1:=zc hM hm1 (zs (zm0 hM) zn)
theorem zm2:Zc mm2:=zc hM hm2 zn
theorem zm3:Zc mm3:=zc hM hm3 (zs (zm2 hM) zn)
theorem zm4:Zc mm4:=zc hM hm4 zn
theorem zm5:Zc mm5:=zc hM hm5 (zs (zm4 hM) zn)
theorem zm6:Zc mm6:=zc hM hm6 (zs (zm1 hM) (zs (zm3 hM) (zs (zm5 hM) zn)))
theorem zm7:Zc mm7:=zc hM hm7 zn
theorem zm8:Zc mm8:=zc hM hm8 zn
theorem zm9:Zc mm9:=zc hM hm9 zn
theorem zm10:Zc uB:=zc hM hm10 zn
theorem zm11:Zc uA:=zc hM hm11 zn
theorem zm12:Zc uz:=zc hM hm12 zn
theorem zm13:Zc uy:=zc hM hm13 zn
theorem zm14:Zc ux:=zc hM hm14 zn
theorem zm15:Zc uw:=zc hM hm15 zn
theorem zm16:Zc uv:=zc hM hm16 zn
theorem zm17:Zc ut:=zc hM hm17 zn
theorem zm18:Zc ur:=zc hM hm18 zn
theorem zm19:Zc uq:=zc hM hm19 zn
theorem zm20:Zc uo:=zc hM hm20 zn
theorem zm21:Zc um:=zc hM hm21 zn
theorem zm22:Zc ul:=zc hM hm22 zn
theorem zm23:Zc uk:=zc hM hm23 zn
theorem zm24:Zc uj:=zc hM hm24 zn
theorem zm25:Zc ui:=zc hM hm25 (zs (zm6 hM) (zs (zm7 hM) (zs (zm8 hM) (zs (zm9 hM) (zs (zm10 hM) (zs (zm11 hM) (zs (zm12 hM) (zs (zm13 hM) (zs (zm14 hM) (zs (zm15 hM) (zs (zm16 hM) (zs (zm17 hM) (zs (zm18 hM) (zs (zm19 hM) (zs (zm20 hM) (zs (zm21 hM) (zs (zm22 hM) (zs (zm23 hM) (zs (zm24 hM) zn)))))))))))))))))))
theorem zm26:Zc uh:=zc hM hm26 zn
theorem zm27:Zc ug:=zc hM hm27 (zs (zm26 hM) zn)
theorem zm28:Zc uf:=zc hM hm28 (zs (zm27 hM) zn)
theorem zm29:Zc ue:=zc hM hm29 zn
theorem zm30:Zc ud:=zc hM hm30 (zs (zm25 hM) (zs (zm28 hM) (zs (zm29 hM) zn)))
theorem uI:Pu Tryz.prog 9 [] (.v (.bool true)):=qV (st':=ud.2.2.2.2) (zm30 hM)
end
set_option maxRecDepth 100000
open Go Go.Sk Go.FlD
def hgA:List ab:=[⟨0,0,[0]⟩]
def hgB:List ab:=[⟨0,0,[1,2]⟩,⟨0,0,[2]⟩,⟨0,0,[1]⟩]
def hgC:List ab:=[⟨0,0,[1]⟩,⟨0,0,[2,3]⟩,⟨0,0,[1]⟩,⟨0,0,[]⟩]
def hgI:List ab:=[⟨0,0,[1]⟩]
def hx:oe:=⟨[⟨1,0,0,0,0,0,0⟩,⟨30,0,0,0,0,0,0⟩,⟨57,0,0,0,0,0,0⟩],[],[],[],[],[],[],4,[⟨0,0,[],0⟩],[],[]⟩
theorem smA:aP hgA∧av hgA=true∧0<hgA.length:=by refine⟨⟨by decide,by decide⟩,by decide,by decide⟩
theorem smB:aP hgB∧av hgB=true∧0<hgB.length:=by refine⟨⟨by decide,by decide⟩,by decide,by decide⟩
theorem smC:aP hgC∧av hgC=true∧0<hgC.length:=by refine⟨⟨by decide,by decide⟩,by decide,by decide⟩
theorem hmay:f31 hx=some true:=by decide+kernel
theorem hdB:f19 hgB=some [-1,0,0]:=by decide+kernel
theorem hdC:f19 hgC=some [-1,0,1,1]:=by decide+kernel
theorem sD{b:List ab}(h:aP b∧av b=true∧0<b.length):f17 b=some (be b):=by
 obtain⟨D,e,hD⟩:=mH b h.1 h.2.1 h.2.2
 exact f17_eq b h.1 h.2.1 h.2.2 e hD
theorem vD{b:List ab}(h:aP b∧av b=true∧0<b.length)(z:Int):f21 b z=some (eG b z):=by
 obtain⟨D,e,hD⟩:=mH b h.1 h.2.1 h.2.2
 exact f21_eq b h.1 h.2.1 h.2.2 e hD z
theorem vC{b:List ab}(h:aP b∧av b=true∧0<b.length):f23 b=some (nm b):=by
 obtain⟨D,e,hD⟩:=mH b h.1 h.2.1 h.2.2
 exact f23_eq b h.1 h.2.1 h.2.2 e hD
theorem hbA:f17 hgA=some [⟨0,0⟩]:=(sD smA).trans (congrArg some kR)
theorem hbB:f17 hgB=some []:=(sD smB).trans (congrArg some (by decide+kernel))
theorem hbC:f17 hgC=some [⟨2,1⟩]:=(sD smC).trans (congrArg some kR)
theorem hlA:f21 hgA 0=some [0]:=(vD smA 0).trans (congrArg some (by decide+kernel))
theorem hlC:f21 hgC 1=some [1,2]:=(vD smC 1).trans (congrArg some (by decide+kernel))
theorem hrB:f23 hgB=some false:=(vC smB).trans (congrArg some (by decide+kernel))
theorem hrC:f23 hgC=some true:=(vC smC).trans (congrArg some (by decide+kernel))
theorem hrI:f23 hgI=some false:=by decide+kernel
theorem uC:∀p∈sf,Pu Tryz.prog p.1 p.2.1 p.2.2:=by
 intro p hp
 simp only[sf,List.mem_cons,List.not_mem_nil,or_false] at hp
 rcases hp with rfl|rfl|rfl|rfl|rfl|rfl|rfl|rfl|rfl|rfl|rfl
 ·exact f31_c hx hmay
 ·exact f17_c hgA hbA
 ·exact f17_c hgB hbB
 ·exact f17_c hgC hbC
 ·exact f19_c hgB hdB
 ·exact f19_c hgC hdC
 ·exact f21_c hgA 0 hlA
 ·exact f21_c hgC 1 hlC
 ·exact f23_c hgB hrB
 ·exact f23_c hgC hrC
 ·exact f23_c hgI hrI
theorem uJ:Pu Tryz.prog 9 [] (.v (.bool true)):=uI uC
end Go.Proofs.YtpodhdopgcedlaaGreatDoor
