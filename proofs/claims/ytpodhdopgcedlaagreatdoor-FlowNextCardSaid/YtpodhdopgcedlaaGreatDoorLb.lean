/- Part of the proof. -/
import Derived.Test.YtpodhdopgcedlaaGreatDoorO
import Derived.Test.YtpodhdopgcedlaaGreatDoorLa
set_option linter.unusedVariables false
set_option linter.unusedSimpArgs false
set_option linter.unusedSectionVars false
set_option linter.unnecessarySimpa false
set_option maxRecDepth 10000
namespace Go.Proofs.YtpodhdopgcedlaaGreatDoor
open Go Go.Sk
theorem f12_l1_eq(L:List Int)(hl:L.length≤100000):∀(n i:Nat),i≤L.length→L.length<n+i→f12_l1 L L (λ_=>some true) n (i:Int)=some true
 |0,i,_,h=>oM
 |n+1,i,hi,hn=>by
  rw[f12_l1]
  by_cases hlt:i<L.length
  ·rw[ltb hlt,cdT,bU hlt,bnS,bnS,dcT rfl,Bool.not_true,cdF,w1n oM]
   exact f12_l1_eq L hl n (i+1) oM oM
  ·rw[ltf hlt,cdF]
theorem f12_self(L:List Int)(hl:L.length≤100000):f12 L L=some true:=by
 obtain⟨B,hB⟩:∃F:Nat,F=9223372036854775808:=⟨_,rfl⟩
 unfold f12
 rw[←hB,dcT rfl,Bool.not_true,cdF,aI]
 exact f12_l1_eq L hl B 0 (Nat.zero_le _) oM
theorem f15_l1_eq(L:List an)(hl:L.length≤100000)(hb:∀b∈L,b.next.length≤100000):∀(n i:Nat),i≤L.length→L.length<n+i→f15_l1 L L (λ_=>some true) n (i:Int)=some true
 |0,i,_,h=>oM
 |n+1,i,hi,hn=>by
  rw[f15_l1]
  by_cases hlt:i<L.length
  ·rw[ltb hlt,cdT,bU hlt]
   simp only[bnS,decide_true,Bool.not_true,cdF]
   rw[f12_self _ (hb _ (List.getElem_mem hlt))]
   simp only[bnS,Bool.not_true,cdF]
   rw[w1n oM]
   exact f15_l1_eq L hl hb n (i+1) oM oM
  ·rw[ltf hlt,cdF]
theorem f15_self(L:List an)(hl:L.length≤100000)(hb:∀b∈L,b.next.length≤100000):f15 L L=some true:=by
 obtain⟨B,hB⟩:∃F:Nat,F=9223372036854775808:=⟨_,rfl⟩
 unfold f15
 rw[←hB,dcT rfl,Bool.not_true,cdF,aI]
 exact f15_l1_eq L hl hb B 0 (Nat.zero_le _) oM
theorem yK(t:ah)(H:List Int)(e:Int):(tg t H e).length≤H.length:=by
 unfold tg
 rw[List.length_map]
 exact Nat.le_trans (List.length_filter_le _ _) sM
theorem f8_small{t:ah}(h:f8 t=false):t.insns.length≤100:=by
 unfold f8 at h
 simp only[Bool.or_eq_false_iff,decide_eq_false_iff_not] at h
 have:=h.1.1.1.1.1.1.1.1.1
 omega
theorem f13_eq{t:ah}(g:GT t)(hv:f31 t=some true){a:Int}(ha:0≤a∧a<t.insns.length):f13 t a=some (nx t a):=by
 unfold f13
 rw[hv,bnS,dcF oM,dcF oM,g.n39 a ha.1 ha.2]
 rfl
theorem f13_no{t:ah}{b:Bool}(hv:f31 t=some b){a:Int}(ha:¬(b=true∧0≤a∧a<t.insns.length)):f13 t a=some []:=by
 unfold f13
 rw[hv,bnS]
 have:((!b||decide (a<0))||decide (a≥(t.insns.length:Int)))=true:=by
  cases b with
  |false=>rfl
  |true=>
   simp only[Bool.not_true,Bool.false_or,Bool.or_eq_true,decide_eq_true_eq]
   have hc2:¬(0≤a∧a<t.insns.length):=λh=>ha ⟨rfl,h⟩
   omega
 rw[this];rfl
theorem uC(t:ah)(a:Int)(hs:Sz t)(ha:SzA t):f3 t a=some true:=by
 unfold f3
 cases h8:f8 t with
 |true=>rfl
 |false=>
  have hN:=f8_small h8
  have hv:=f31_eq t hs
  have hv':=f25_eq t hs ha
  rw[cdF]
  have key:∃BL c L,f10 t a=some (BL,c)∧f11 t a=some (BL,c)∧f13 t a=some L∧f14 t a=some L∧BL.length≤100000∧(∀b∈BL,b.next.length≤100000)∧L.length≤100000:=by
   by_cases hc:MayB t=true∧0≤a∧a<t.insns.length
   ·rw[hc.1] at hv hv'
    have g:=GT.of hs hc.1 hN
    obtain⟨R,E,hb,e1,e2⟩:=tz g hc.2 hv hv'
    have hl:=vP g hc.2 hb.rl
    have h26:f26 t a=true:=by unfold f26;rw[dcT oM,dcT oM];rfl
    refine⟨_,_,nx t a,e1,e2,f13_eq g hv hc.2,?_,by rw[List.length_map];omega,λb hb=>?_,by have:=ko g a;omega⟩
    ·unfold f14
     rw[hv',bnS,h26,g.n38 a hc.2.1 hc.2.2];rfl
    ·obtain⟨h,_,rfl⟩:=List.mem_map.1 hb
     have:=yK t (HL t R a) (E h)
     unfold bk1
     show(tg t (HL t R a) (E h)).length≤_
     omega
   ·refine⟨[],2,[],?_,?_,f13_no hv hc,?_,sM,sM,sM⟩
    ·unfold f10
     rw[hv,bnS]
     have:((!MayB t||decide (a<0))||decide (a≥(t.insns.length:Int)))=true:=by
      cases hm:MayB t with
      |false=>rfl
      |true=>
       simp only[Bool.not_true,Bool.false_or,Bool.or_eq_true,decide_eq_true_eq]
       have hc2:¬(0≤a∧a<t.insns.length):=λh=>hc ⟨hm,h⟩
       omega
     rw[this];rfl
    ·unfold f11
     have:(!MayB t|| !f26 t a)=true:=by
      cases hm:MayB t with
      |false=>rfl
      |true=>
       have hc2:¬(0≤a∧a<t.insns.length):=λh=>hc ⟨hm,h⟩
       unfold f26
       simp only[Bool.not_true,Bool.false_or,Bool.not_eq_true',Bool.and_eq_false_iff,decide_eq_false_iff_not]
       omega
     rw[hv',bnS,this];rfl
    ·unfold f14
     have:(!MayB t|| !f26 t a)=true:=by
      cases hm:MayB t with
      |false=>rfl
      |true=>
       have hc2:¬(0≤a∧a<t.insns.length):=λh=>hc ⟨hm,h⟩
       unfold f26
       simp only[Bool.not_true,Bool.false_or,Bool.not_eq_true',Bool.and_eq_false_iff,decide_eq_false_iff_not]
       omega
     rw[hv',bnS,this];rfl
  obtain⟨BL,c,L,e1,e2,e3,e4,l1,l2,l3⟩:=key
  rw[e1,e2,e3,e4]
  simp only[bnS]
  rw[aI,f12_self L l3]
  simp only[bnS,cdT]
  rw[f15_self BL l1 l2]
  simp only[bnS,cdT,decide_true,f9]
structure BLs(t:ah)(H:List Int)(E:Int→Int)(BL:List an):Prop where
 len:BL.length=H.length
 at_:∀i,∀h:i<H.length,idx BL (i:Int)=some (bk1 t H E H[i])
end Go.Proofs.YtpodhdopgcedlaaGreatDoor
