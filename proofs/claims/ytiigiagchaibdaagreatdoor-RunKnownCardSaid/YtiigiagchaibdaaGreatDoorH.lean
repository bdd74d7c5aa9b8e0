/- Part of the proof. -/
import Derived.Test.YtiigiagchaibdaaGreatDoorH0
import Derived.Test.YtiigiagchaibdaaGreatDoorH1
import Derived.Test.YtiigiagchaibdaaGreatDoorH2
import Derived.Test.YtiigiagchaibdaaGreatDoorH3
import Derived.Test.YtiigiagchaibdaaGreatDoorH4
import Derived.Test.YtiigiagchaibdaaGreatDoorH5
import Derived.Test.YtiigiagchaibdaaGreatDoorH6
import Derived.Test.YtiigiagchaibdaaGreatDoorH7
import Derived.Test.YtiigiagchaibdaaGreatDoorH8
import Derived.Test.YtiigiagchaibdaaGreatDoorH9
import Derived.Test.YtiigiagchaibdaaGreatDoorH10
import Derived.Test.YtiigiagchaibdaaGreatDoorH11
import Derived.Test.YtiigiagchaibdaaGreatDoorH12
import Derived.Test.YtiigiagchaibdaaGreatDoorH13
import Derived.Test.YtiigiagchaibdaaGreatDoorH14
import Derived.Test.YtiigiagchaibdaaGreatDoorH15
import Derived.Test.YtiigiagchaibdaaGreatDoorH16
import Derived.Test.YtiigiagchaibdaaGreatDoorH17
import Derived.Test.YtiigiagchaibdaaGreatDoorH18
import Derived.Test.YtiigiagchaibdaaGreatDoorH19
import Derived.Test.YtiigiagchaibdaaGreatDoorH20
import Derived.Test.YtiigiagchaibdaaGreatDoorH21
set_option linter.unusedVariables false
set_option linter.unusedSimpArgs false
set_option linter.unusedSectionVars false
set_option linter.unnecessarySimpa false
set_option maxRecDepth 1000000
set_option maxHeartbeats 4000000
namespace Go.Sk
open Go
def NTok(P:Program):NT Func→Prop
 | .lf=>True
 | .nd k v l r=>P.funcs[k]? =some v∧NTok P l∧NTok P r
theorem NTok.get{P:Program}:∀{t:NT Func},NTok P t→∀{f:Nat}{fn:Func},t.get f=some fn→P.funcs[f]? =some fn
 | .lf,_,f,fn,h=>by cases h
 | .nd k v l r,⟨h1,h2,h3⟩,f,fn,h=>by
  unfold NT.get at h
  cases hb:Nat.beq f k with
  |true=>
   rw[hb] at h
   obtain rfl:=nbE hb
   obtain rfl:=inS h
   exact h1
  |false=>
   rw[hb] at h
   simp only[cdF] at h
   cases hc:Nat.blt f k with
   |true=>rw[hc] at h;exact NTok.get h2 h
   |false=>rw[hc] at h;exact NTok.get h3 h
end Go.Sk
namespace Go.Proofs.YtiigiagchaibdaaGreatDoor
open Go Go.Sk
theorem vI:NTok Tryz.prog fTt:=by
 unfold fTt
 simp only[NTok]
 repeat' first|exact trivial|kernel_rfl|constructor
theorem l3(f:Nat)(fn:Func)(h:fT f=some fn):Tryz.prog.funcs[f]? =some fn:=NTok.get vI h
def Zc(m:MT):Prop:=Ctr Tryz.prog m.1 m.2.1 m.2.2.1 (λr s=>r=m.2.2.2.1∧s=m.2.2.2.2)
theorem iH{f:FuncId}{asz:List D}{r:AV}{d:D}{st':List AO}(h:Ctr Tryz.prog f (asz.map .d) [] λr' s'=>r'=r∧s'=st')(hl:leX 100 r d=true):Pu Tryz.prog f asz d:=by
 refine⟨h.1,λm φ w vs hs ha=>(h.2 m φ w vs hs ha).mono ?_⟩
 rintro en w' ⟨v,r',s',m',φ',rfl,⟨rfl,rfl⟩,hev,hsr,hra⟩
 have hm:m=[]:=List.eq_nil_of_length_eq_zero hs.len
 subst hm
 have hra:=qE hl _ _ _ _ hra
 exact⟨v,_,[],[],φ',rfl,⟨rfl,rfl⟩,⟨Pre.refl _,λ_ h=> .inl h,hev.os,hev.tape,hev.output,hev.size,hev.keep,hev.fz⟩,hsr.nil,by simpa[RA] using hra⟩
theorem kM:aE Tryz.prog clT:=t7 ln l3
theorem run0{f:FuncId}{asz:List AV}{st st':List AO}{r:AV}(h:l4 Tryz.prog ty fT clT iQ [] [] 100 9 f asz st=some (r,st')):Ctr Tryz.prog f asz st (λr' s'=>r'=r∧s'=st'):=eB ln l3 kM eu 9 _ _ _ _ _ h
theorem mM:∀p∈pu0,Pu Tryz.prog p.1 p.2.1 p.2.2:=by
 intro p hp
 simp only[pu0,List.mem_cons,List.not_mem_nil,or_false] at hp
 rcases hp with rfl|rfl
 ·exact gr (st':=[]) (run0 kR)
 ·exact gr (st':=[]) (run0 kR)
theorem d5{k n:Nat}(h:NM k n=true):∀p∈(hZ.drop k).take n,Pu Tryz.prog (qr p).1 (qr p).2.1 (qr p).2.2:=λp hp=>by
 have h1:=List.all_eq_true.1 h p hp
 split at h1
 ·rename_i i hx
  have hi:i=p.2:=by simpa using h1
  subst hi
  have hc:=eB ln l3 (gt (kz mM) kM) (iV _) 40 _ _ _ _ _ hx
  refine⟨hc.1,λm φ w vs hs ha=>(hc.2 m φ w vs hs ha).mono ?_⟩
  rintro en w' ⟨v,r',s',m',φ',rfl,⟨rfl,rfl⟩,hev,hsr,hra⟩
  have hm:m=[]:=List.eq_nil_of_length_eq_zero hs.len
  subst hm
  refine⟨v,_,[],[],φ',rfl,⟨rfl,rfl⟩,⟨Pre.refl _,λ_ h=> .inl h,hev.os,hev.tape,hev.output,hev.size,hev.keep,hev.fz⟩,hsr.nil,?_⟩
  simp only[RA] at hra
  obtain⟨cs,h2,h3⟩:=hra
  simp only[RA,qr,RD]
  exact⟨cs,h2,a8 (ds:=[_,_]) h3⟩
 ·cases h1
theorem vm:∀p∈puN,Pu Tryz.prog p.1 p.2.1 p.2.2:=λp hp=>by
 rcases List.mem_append.1 hp with h|h
 ·exact mM p h
 ·obtain⟨q,hq,rfl⟩:=List.mem_map.1 h
  have hsp:hZ=((((((((hZ.drop 0).take 8++(hZ.drop 8).take 8)++(hZ.drop 16).take 8)++(hZ.drop 24).take 8)++(hZ.drop 32).take 8)++(hZ.drop 40).take 8)++(hZ.drop 48).take 8)++(hZ.drop 56).take 1):=rfl
  rw[hsp] at hq
  simp only[List.mem_append] at hq
  rcases hq with((((((h|h)|h)|h)|h)|h)|h)|h
  ·exact d5 nm0 q h
  ·exact d5 nm1 q h
  ·exact d5 nm2 q h
  ·exact d5 nm3 q h
  ·exact d5 nm4 q h
  ·exact d5 nm5 q h
  ·exact d5 nm6 q h
  ·exact d5 nm7 q h
theorem zn:∀p∈([]:List MT),Zc p:=λ_ h=>by cases h
theorem zs{m:MT}{l:List MT}(h:Zc m)(hl:∀p∈l,Zc p):∀p∈m::l,Zc p:=List.forall_mem_cons.2 ⟨h,hl⟩
theorem zc0{l:List MT}{m:MT}(h:HR0 l m=HRr m)(hl:∀p∈l,Zc p):Zc m:=eB ln l3 (gt (mV hl) (gt (kz vm) kM)) (iV _) 40 _ _ _ _ _ h
theorem zm0:Zc mm0:=zc0 hm0 zn
theorem zm1:Zc mm1:=zc0 hm1 zn
theorem vl:∀p∈puT,Pu Tryz.prog p.1 p.2.1 p.2.2:=
 List.forall_mem_cons.2 ⟨iH (asz:=[]) (r:=mm0.2.2.2.1) (st':=mm0.2.2.2.2) zm0 kR,List.forall_mem_cons.2 ⟨iH (asz:=[ri]) (r:=mm1.2.2.2.1) (st':=mm1.2.2.2.2) zm1 kR,mM⟩⟩
section
variable(hM:∀p∈tx,Pu Tryz.prog p.1 p.2.1 p.2.2)
include hM
theorem zc{l:List MT}{m:MT}(h:HR1 l m=HRr m)(hl:∀p∈l,Zc p):Zc m:=eB ln l3 (gt (mV hl) (gt (kz vl) (gt (qN hM) kM))) (iV _) 40 _ _ _ _ _ h
theorem zm2:Zc mm2:=zc hM hm2 zn
theorem zm3:Zc mm3:=zc hM hm3 zn
theorem zm4:Zc mm4:=zc hM hm4 zn
theorem zm5:Zc mm5:=zc hM hm5 zn
theorem zm6:Zc mm6:=zc hM hm6 zn
theorem zm7:Zc mm7:=zc hM hm7 zn
theorem zm8:Zc mm8:=zc hM hm8 (zs (zm3 hM) (zs (zm4 hM) (zs (zm5 hM) (zs (zm6 hM) (zs (zm7 hM) zn)))))
theorem zm9:Zc mm9:=zc hM hm9 zn
theorem zm10:Zc tt:=zc hM hm10 zn
theorem zm11:Zc tr:=zc hM hm11 zn
theorem zm12:Zc tq:=zc hM hm12 zn
theorem zm13:Zc tp:=zc hM hm13 (zs (zm9 hM) (zs (zm10 hM) (zs (zm11 hM) (zs (zm12 hM) zn))))
theorem zm14:Zc tn:=zc hM hm14 zn
theorem zm15:Zc tl:=zc hM hm15 zn
theorem zm16:Zc tk:=zc hM hm16 zn
theorem zm17:Zc tj:=zc hM hm17 zn
theorem zm18:Zc ti:=zc hM hm18 zn
theorem zm19:Zc th:=zc hM hm19 zn
theorem zm20:Zc tg:=zc hM hm20 zn
theorem zm21:Zc tf:=zc hM hm21 zn
theorem zm22:Zc te:=zc hM hm22 zn
theorem zm23:Zc td:=zc hM hm23 zn
theorem zm24:Zc ta:=zc hM hm24 zn
theorem zm25:Zc s8:=zc hM hm25 zn
theorem zm26:Zc s7:=zc hM hm26 zn
theorem zm27:Zc s6:=zc hM hm27 zn
theorem zm28:Zc s5:=zc hM hm28 zn
theorem zm29:Zc sZ:=zc hM hm29 zn
theorem zm30:Zc sY:=zc hM hm30 zn
theorem zm31:Zc sX:=zc hM hm31 zn
theorem zm32:Zc sW:=zc hM hm32 zn
theorem zm33:Zc sV:=zc hM hm33 zn
theorem zm34:Zc sU:=zc hM hm34 zn
theorem zm35:Zc sT:=zc hM hm35 zn
theorem zm36:Zc sR:=zc hM hm36 zn
theorem zm37:Zc sQ:=zc hM hm37 (zs (zm15 hM) (zs (zm16 hM) (zs (zm17 hM) (zs (zm18 hM) (zs (zm19 hM) (zs (zm20 hM) (zs (zm21 hM) (zs (zm22 hM) (zs (zm23 hM) (zs (zm24 hM) (zs (zm25 hM) (zs (zm26 hM) (zs (zm27 hM) (zs (zm28 hM) (zs (zm29 hM) (zs (zm30 hM) (zs (zm31 hM) (zs (zm32 hM) (zs (zm33 hM) (zs (zm34 hM) (zs (zm35 hM) (zs (zm36 hM) zn))))))))))))))))))))))
theorem zm38:Zc sP:=zc hM hm38 (zs (zm14 hM) (zs (zm37 hM) zn))
theorem zm39:Zc sO:=zc hM hm39 zn
theorem zm40:Zc sL:=zc hM hm40 zn
theorem zm41:Zc sK:=zc hM hm41 zn
theorem zm42:Zc sJ:=zc hM hm42 zn
theorem zm43:Zc sI:=zc hM hm43 zn
theorem zm44:Zc sH:=zc hM hm44 zn
theorem zm45:Zc sG:=zc hM hm45 zn
theorem zm46:Zc sF:=zc hM hm46 zn
theorem zm47:Zc sE:=zc hM hm47 zn
theorem zm48:Zc sD:=zc hM hm48 zn
theorem zm49:Zc sC:=zc hM hm49 zn
theorem zm50:Zc sB:=zc hM hm50 zn
theorem zm51:Zc sA:=zc hM hm51 zn
theorem zm52:Zc sy:=zc hM hm52 zn
theorem zm53:Zc sx:=zc hM hm53 zn
theorem zm54:Zc sw:=zc hM hm54 zn
theorem zm55:Zc sv:=zc hM hm55 zn
theorem zm56:Zc su:=zc hM hm56 zn
theorem zm57:Zc ss:=zc hM hm57 zn
theorem zm58:Zc sq:=zc hM hm58 zn
theorem zm59:Zc so:=zc hM hm59 (zs (zm13 hM) (zs (zm38 hM) (zs (zm39 hM) (zs (zm40 hM) (zs (zm41 hM) (zs (zm42 hM) (zs (zm43 hM) (zs (zm44 hM) (zs (zm45 hM) (zs (zm46 hM) (zs (zm47 hM) (zs (zm48 hM) (zs (zm49 hM) (zs (zm50 hM) (zs (zm51 hM) (zs (zm52 hM) (zs (zm53 hM) (zs (zm54 hM) (zs (zm55 hM) (zs (zm56 hM) (zs (zm57 hM) (zs (zm58 hM) zn))))))))))))))))))))))
theorem zm60:Zc sn:=zc hM hm60 (zs (zm2 hM) (zs (zm8 hM) (zs (zm59 hM) zn)))
theorem tJ:Pu Tryz.prog 3 [] (.v (.bool true)):=gr (st':=sn.2.2.2.2) (zm60 hM)
end
set_option maxRecDepth 100000
def hx0:jh:=⟨[],[],[],[],[],[],[],0,[],[],[]⟩
theorem may0:f19 hx0=some false:=by decide+kernel
def hx1:jh:=⟨[⟨1,0,0,0,7,0,0⟩,⟨39,0,0,0,0,0,0⟩,⟨57,0,0,0,0,0,0⟩,⟨57,0,0,0,0,0,0⟩],[⟨0,3,3,true⟩],[],[],[],[⟨1,0,0,false,[]⟩],[],4,[⟨0,0,[],0⟩],[],[]⟩
theorem may1:f19 hx1=some true:=by decide+kernel
def hx2:jh:=⟨[⟨1,0,0,0,40,0,0⟩,⟨47,0,0,0,0,0,0⟩,⟨1,0,0,0,1,0,0⟩,⟨39,0,0,0,0,0,0⟩,⟨57,0,0,0,0,0,0⟩,⟨57,0,0,0,0,0,0⟩],[⟨0,5,5,true⟩],[],[],[],[⟨1,0,0,false,[]⟩],[],4,[⟨0,0,[],0⟩],[],[]⟩
theorem may2:f19 hx2=some true:=by decide+kernel
def hx3:jh:=⟨[⟨44,0,0,0,0,0,0⟩,⟨49,0,1,0,2,0,0⟩,⟨1,0,0,0,0,0,0⟩,⟨4,0,0,0,1,0,0⟩,⟨40,0,0,0,0,0,0⟩,⟨29,0,0,0,0,0,8⟩,⟨36,0,0,0,0,0,0⟩,⟨4,0,0,0,1,0,0⟩,⟨3,0,0,0,1,0,0⟩,⟨46,0,0,0,0,0,0⟩,⟨4,0,0,0,1,0,0⟩,⟨41,0,0,0,0,0,0⟩,⟨3,0,0,0,1,0,0⟩,⟨35,0,0,0,0,0,0⟩,⟨29,0,0,0,0,0,19⟩,⟨36,0,0,0,0,0,0⟩,⟨4,0,0,0,1,0,0⟩,⟨45,0,0,0,0,0,0⟩,⟨29,0,0,0,0,0,11⟩,⟨57,0,0,0,0,0,0⟩,⟨57,0,0,0,0,0,0⟩,⟨50,0,0,0,0,0,0⟩,⟨1,0,0,0,5,0,0⟩,⟨39,0,0,0,0,0,0⟩,⟨51,0,0,0,0,0,0⟩,⟨29,0,0,0,0,0,30⟩,⟨51,0,0,0,1,0,0⟩,⟨36,0,0,0,0,0,0⟩,⟨41,0,0,0,0,0,0⟩,⟨35,0,0,0,0,0,0⟩,⟨57,0,0,0,0,0,0⟩,⟨57,0,0,0,0,0,0⟩],[⟨0,1,15,true⟩,⟨1,6,6,true⟩,⟨0,20,20,true⟩,⟨22,25,26,true⟩,⟨21,31,31,true⟩],[],[⟨[⟨1,0, -1,0,22⟩],0, -1⟩],[[1]],[⟨1,0,0,false,[]⟩,⟨1, -4611686018427387904,4611686018427387903,false,[]⟩,⟨1, -4611686018427387904,4611686018427387903,false,[]⟩],[],4,[⟨0,0,[],0⟩,⟨0,21,[⟨[],[]⟩],0⟩],[],[]⟩
theorem may3:f19 hx3=some true:=by decide+kernel
theorem tw:∀p∈tx,Pu Tryz.prog p.1 p.2.1 p.2.2:=by
 intro p hp
 simp only[tx,List.mem_cons,List.not_mem_nil,or_false] at hp
 rcases hp with rfl|rfl|rfl|rfl
 ·exact f19_c hx0 may0
 ·exact f19_c hx1 may1
 ·exact f19_c hx2 may2
 ·exact f19_c hx3 may3
theorem tK:Pu Tryz.prog 3 [] (.v (.bool true)):=tJ tw
end Go.Proofs.YtiigiagchaibdaaGreatDoor
