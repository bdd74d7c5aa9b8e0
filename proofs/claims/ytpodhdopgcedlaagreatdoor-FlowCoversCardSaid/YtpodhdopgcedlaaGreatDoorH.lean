/- Part of the proof. -/
import Derived.KernelRfl
import Derived.Test.YtpodhdopgcedlaaGreatDoorH0
import Derived.Test.YtpodhdopgcedlaaGreatDoorH1
import Derived.Test.YtpodhdopgcedlaaGreatDoorLb
set_option linter.unusedVariables false
set_option linter.unusedSimpArgs false
set_option linter.unusedSectionVars false
set_option linter.unnecessarySimpa false
set_option maxRecDepth 1000000
set_option maxHeartbeats 4000000
namespace Go.Sk
open Go
def NTok(P:Program):NT Func→Prop
 | .lf=>True
 | .nd k v l r=>P.funcs[k]? =some v∧NTok P l∧NTok P r
theorem NTok.get{P:Program}:∀{t:NT Func},NTok P t→∀{f:Nat}{fn:Func},t.get f=some fn→P.funcs[f]? =some fn
 | .lf,_,f,fn,h=>by cases h
 | .nd k v l r,⟨h1,h2,h3⟩,f,fn,h=>by
  unfold NT.get at h
  cases hb:Nat.beq f k with
  |true=>
   rw[hb] at h
   obtain rfl:=nbE hb
   obtain rfl:=inS h
   exact h1
  |false=>
   rw[hb] at h
   simp only[cdF] at h
   cases hc:Nat.blt f k with
   |true=>rw[hc] at h;exact NTok.get h2 h
   |false=>rw[hc] at h;exact NTok.get h3 h
end Go.Sk
namespace Go.Proofs.YtpodhdopgcedlaaGreatDoor
open Go Go.Sk
theorem Af:NTok Tryz.prog fTt:=by
 unfold fTt
 simp only[NTok]
 repeat' first|exact trivial|kernel_rfl|constructor
theorem fT_ok(f:Nat)(fn:Func)(h:fT f=some fn):Tryz.prog.funcs[f]? =some fn:=NTok.get Af h
def Zc(m:MT):Prop:=Ctr Tryz.prog m.1 m.2.1 m.2.2.1 (λr s=>r=m.2.2.2.1∧s=m.2.2.2.2)
section
variable(hM:∀p∈uI,Pu Tryz.prog p.1 p.2.1 p.2.2)
include hM
theorem zc{l:List MT}{m:MT}(h:HRn l m=HRr m)(hl:∀p∈l,Zc p):Zc m:=
 (sn ty_ok fT_ok (zr (uA (uU hl)) (uA (qN zG (qN (uS hM) (qN (uT hM) zF))))) (xp _) 24 _ _ _ _ h).imp λr s hq=>by simpa using hq
omit hM in
theorem zn:∀p∈([]:List MT),Zc p:=λ_ h=>by cases h
omit hM in
theorem zs{m:MT}{l:List MT}(h:Zc m)(hl:∀p∈l,Zc p):∀p∈m::l,Zc p:=List.forall_mem_cons.2 ⟨h,hl⟩
theorem zm0:Zc mm0:=zc hM hm0 zn
theorem zm1:Zc mm1:=zc hM hm1 (zs (zm0 hM) zn)
theorem zm2:Zc mm2:=zc hM hm2 zn
theorem zm3:Zc mm3:=zc hM hm3 (zs (zm2 hM) zn)
theorem zm4:Zc mm4:=zc hM hm4 zn
theorem zm5:Zc mm5:=zc hM hm5 (zs (zm4 hM) zn)
theorem zm6:Zc mm6:=zc hM hm6 (zs (zm1 hM) (zs (zm3 hM) (zs (zm5 hM) zn)))
theorem zm7:Zc mm7:=zc hM hm7 zn
theorem zm8:Zc mm8:=zc hM hm8 zn
theorem zm9:Zc mm9:=zc hM hm9 zn
theorem zm10:Zc w9:=zc hM hm10 zn
theorem zm11:Zc w8:=zc hM hm11 zn
theorem zm12:Zc w7:=zc hM hm12 zn
theorem zm13:Zc w6:=zc hM hm13 zn
theorem zm14:Zc w5:=zc hM hm14 zn
theorem zm15:Zc w3:=zc hM hm15 zn
theorem zm16:Zc wZ:=zc hM hm16 zn
theorem zm17:Zc wY:=zc hM hm17 zn
theorem zm18:Zc wX:=zc hM hm18 zn
theorem zm19:Zc wW:=zc hM hm19 zn
theorem zm20:Zc wV:=zc hM hm20 zn
theorem zm21:Zc wU:=zc hM hm21 zn
theorem zm22:Zc wT:=zc hM hm22 zn
theorem zm23:Zc wS:=zc hM hm23 zn
theorem zm24:Zc wR:=zc hM hm24 zn
theorem zm25:Zc wQ:=zc hM hm25 (zs (zm6 hM) (zs (zm7 hM) (zs (zm8 hM) (zs (zm9 hM) (zs (zm10 hM) (zs (zm11 hM) (zs (zm12 hM) (zs (zm13 hM) (zs (zm14 hM) (zs (zm15 hM) (zs (zm16 hM) (zs (zm17 hM) (zs (zm18 hM) (zs (zm19 hM) (zs (zm20 hM) (zs (zm21 hM) (zs (zm22 hM) (zs (zm23 hM) (zs (zm24 hM) zn)))))))))))))))))))
theorem zm26:Zc wP:=zc hM hm26 zn
theorem zm27:Zc wO:=zc hM hm27 (zs (zm26 hM) zn)
theorem zm28:Zc wN:=zc hM hm28 (zs (zm27 hM) zn)
theorem zm29:Zc wM:=zc hM hm29 zn
theorem zm30:Zc wL:=zc hM hm30 (zs (zm25 hM) (zs (zm28 hM) (zs (zm29 hM) zn)))
theorem xj:Pu Tryz.prog 9 [] (.v (.bool true)):=tq (st':=wL.2.2.2.2) (zm30 hM)
end
set_option maxRecDepth 100000
def hgA:List al:=[⟨0,0,[0]⟩]
def hgB:List al:=[⟨0,0,[1,2]⟩,⟨0,0,[2]⟩,⟨0,0,[1]⟩]
def hgC:List al:=[⟨0,0,[1]⟩,⟨0,0,[2,3]⟩,⟨0,0,[1]⟩,⟨0,0,[]⟩]
def hgI:List al:=[⟨0,0,[1]⟩]
def hx:ah:=⟨[⟨1,0,0,0,0,0,0⟩,⟨30,0,0,0,0,0,0⟩,⟨57,0,0,0,0,0,0⟩],[],[],[],[],[],[],4,[⟨0,0,[],0⟩],[],[]⟩
def ov(b0:List al)(r57:List Int)(k60:(List Pr2)→Option (List Pr2)):Nat→Int→(List Pr2)→Option (List Pr2)
 |0,_,_=>none
 |n+1,t64,lw65=>
 (bif (decide (t64<(List.length r57:Int))) then ak (λ(lw70:List Pr2)=>
 (ov b0 r57 k60 n (IntKind.i64.wrap (t64+1)) lw70)) λk72=>
 Option.bind (idx b0 t64) λx73=>
 Option.bind (f40o x73.next) λr74=>
 Option.bind (some r74) λr76=>
 Option.bind (f41 r76) λr77=>
 (f17_l2 r57 t64 k72 r77 (Int.toNat ((List.length r77:Int) - 0)+1) 0 lw65) else(k60 lw65))
theorem hmay:f31 hx=some true:=by decide+kernel
theorem hdB:f19 hgB=some [-1,0,0]:=by decide+kernel
theorem hdC:f19 hgC=some [-1,0,1,1]:=by decide+kernel
theorem u5(b:List al)(r:List Int)(k:List Pr2→Option (List Pr2))(hb:∀x∈b,x.next.Pairwise (·≤·)∧x.next.length≤1000):∀n t lw,f17_l1 b r k n t lw=ov b r k n t lw
 |0,_,_=>rfl
 |n+1,t,lw=>by
  rw[f17_l1,ov]
  cases decide (t<(List.length r:Int)) with
  |false=>rfl
  |true=>
   rw[cdT,cdT]
   show Option.bind (idx b t) _=Option.bind (idx b t) _
   cases h:idx b t with
   |none=>rfl
   |some x=>
    have hx:=hb x (List.mem_of_getElem? (ep h))
    have h34:f34 x.next=some x.next:=by
     unfold f34
     rw[List.mergeSort_of_pairwise (List.Pairwise.imp (λh=>by simpa using h) hx.1),show decide (x.next.length<4611686018427387904)=true from dcT oM]
     rfl
    rw[bnS,bnS]
    unfold f40o
    cases bw 8 [] x.next with
    |false=>rfl
    |true=>
     show Option.bind (f34 x.next) _=Option.bind (some x.next) _
     rw[h34]
     simp only[bnS,ak,u5 b r k hb n]
theorem yq{b:List al}(hb:∀x∈b,x.next.Pairwise (·≤·)∧x.next.length≤1000){D:List Int}(hD:f19 b=some D):f17 b=ov b D (λl=>some l) (Int.toNat ((D.length:Int) - 0)+1) 0 []:=by
 unfold f17
 rw[hD,bnS,ak]
 exact u5 b D _ hb _ _ _
theorem hbA:f17 hgA=some [⟨0,0⟩]:=by kernel_rfl
theorem hbB:f17 hgB=some []:=(yq dC hdB).trans kR
theorem hbC:f17 hgC=some [⟨2,1⟩]:=(yq dC hdC).trans kR
theorem hlA:f21 hgA 0=some [0]:=by kernel_rfl
theorem hlC:f21 hgC 1=some [1,2]:=by
 unfold f21
 rw[hbC]
 kernel_rfl
theorem hrB:f23 hgB=some false:=by
 unfold f23
 rw[hbB]
 kernel_rfl
theorem hrC:f23 hgC=some true:=by
 unfold f23
 rw[hbC]
 kernel_rfl
theorem hrI:f23 hgI=some false:=by decide+kernel
theorem xb:∀p∈uI,Pu Tryz.prog p.1 p.2.1 p.2.2:=by
 intro p hp
 simp only[uI,List.mem_cons,List.not_mem_nil,or_false] at hp
 rcases hp with rfl|rfl|rfl|rfl|rfl|rfl|rfl|rfl|rfl|rfl|rfl
 ·exact f31_c hx hmay
 ·exact f17_c hgA hbA
 ·exact f17_c hgB hbB
 ·exact f17_c hgC hbC
 ·exact f19_c hgB hdB
 ·exact f19_c hgC hdC
 ·exact f21_c hgA 0 hlA
 ·exact f21_c hgC 1 hlC
 ·exact f23_c hgB hrB
 ·exact f23_c hgC hrC
 ·exact f23_c hgI hrI
theorem xl:Pu Tryz.prog 9 [] (.v (.bool true)):=xj xb
end Go.Proofs.YtpodhdopgcedlaaGreatDoor
