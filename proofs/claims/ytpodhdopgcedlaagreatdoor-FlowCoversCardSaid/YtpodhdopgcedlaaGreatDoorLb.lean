/- Part of the proof. -/
import Derived.Test.YtpodhdopgcedlaaGreatDoorO
import Derived.Test.YtpodhdopgcedlaaGreatDoorLa
set_option linter.unusedVariables false
set_option linter.unusedSimpArgs false
set_option linter.unusedSectionVars false
set_option linter.unnecessarySimpa false
set_option maxRecDepth 10000
namespace Go.Proofs.YtpodhdopgcedlaaGreatDoor
open Go Go.Sk
theorem f12_l1_eq(L:List Int)(hl:L.length≤100000):∀(n i:Nat),i≤L.length→L.length<n+i→f12_l1 L L (λ_=>some true) n (i:Int)=some true
 |0,i,_,h=>oM
 |n+1,i,hi,hn=>by
  rw[f12_l1]
  by_cases hlt:i<L.length
  ·rw[ltb hlt,cdT,br hlt,bnS,bnS,dcT rfl,Bool.not_true,cdF,w1n oM]
   exact f12_l1_eq L hl n (i+1) oM oM
  ·rw[ltf hlt,cdF]
theorem f12_self(L:List Int)(hl:L.length≤100000):f12 L L=some true:=by
 obtain⟨B,hB⟩:∃F:Nat,F=9223372036854775808:=⟨_,rfl⟩
 unfold f12
 rw[←hB,dcT rfl,Bool.not_true,cdF,az]
 exact f12_l1_eq L hl B 0 (Nat.zero_le _) oM
theorem f15_l1_eq(L:List al)(hl:L.length≤100000)(hb:∀b∈L,b.next.length≤100000):∀(n i:Nat),i≤L.length→L.length<n+i→f15_l1 L L (λ_=>some true) n (i:Int)=some true
 |0,i,_,h=>oM
 |n+1,i,hi,hn=>by
  rw[f15_l1]
  by_cases hlt:i<L.length
  ·rw[ltb hlt,cdT,br hlt]
   simp only[bnS,decide_true,Bool.not_true,cdF]
   rw[f12_self _ (hb _ (List.getElem_mem hlt))]
   simp only[bnS,Bool.not_true,cdF]
   rw[w1n oM]
   exact f15_l1_eq L hl hb n (i+1) oM oM
  ·rw[ltf hlt,cdF]
theorem f15_self(L:List al)(hl:L.length≤100000)(hb:∀b∈L,b.next.length≤100000):f15 L L=some true:=by
 obtain⟨B,hB⟩:∃F:Nat,F=9223372036854775808:=⟨_,rfl⟩
 unfold f15
 rw[←hB,dcT rfl,Bool.not_true,cdF,az]
 exact f15_l1_eq L hl hb B 0 (Nat.zero_le _) oM
theorem ul(t:ah)(H:List Int)(e:Int):(tg t H e).length≤H.length:=by
 unfold tg
 rw[List.length_map]
 exact Nat.le_trans (List.length_filter_le _ _) sM
theorem f8_small{t:ah}(h:f8 t=false):t.insns.length≤100:=by
 unfold f8 at h
 simp only[Bool.or_eq_false_iff,decide_eq_false_iff_not] at h
 have:=h.1.1.1.1.1.1.1.1.1
 omega
theorem f13_eq{t:ah}(g:GT t)(hv:f31 t=some true){a:Int}(ha:0≤a∧a<t.insns.length):f13 t a=some (nx t a):=by
 unfold f13
 rw[hv,bnS,dcF oM,dcF oM,g.n39 a ha.1 ha.2]
 rfl
theorem f13_no{t:ah}{b:Bool}(hv:f31 t=some b){a:Int}(ha:¬(b=true∧0≤a∧a<t.insns.length)):f13 t a=some []:=by
 unfold f13
 rw[hv,bnS]
 have:((!b||decide (a<0))||decide (a≥(t.insns.length:Int)))=true:=by
  cases b with
  |false=>rfl
  |true=>
   simp only[Bool.not_true,Bool.false_or,Bool.or_eq_true,decide_eq_true_eq]
   have hc2:¬(0≤a∧a<t.insns.length):=λh=>ha ⟨rfl,h⟩
   omega
 rw[this];rfl
theorem law_Next(t:ah)(a:Int)(hs:Sz t)(ha:SzA t):f3 t a=some true:=by
 unfold f3
 cases h8:f8 t with
 |true=>rfl
 |false=>
  have hN:=f8_small h8
  have hv:=f31_eq t hs
  have hv':=f25_eq t hs ha
  rw[cdF]
  have key:∃BL c L,f10 t a=some (BL,c)∧f11 t a=some (BL,c)∧f13 t a=some L∧f14 t a=some L∧BL.length≤100000∧(∀b∈BL,b.next.length≤100000)∧L.length≤100000:=by
   by_cases hc:MayB t=true∧0≤a∧a<t.insns.length
   ·rw[hc.1] at hv hv'
    have g:=GT.of hs hc.1 hN
    obtain⟨R,E,hb,e1,e2⟩:=nE g hc.2 hv hv'
    have hl:=mL g hc.2 hb.rl
    have h26:f26 t a=true:=by unfold f26;rw[dcT oM,dcT oM];rfl
    refine⟨_,_,nx t a,e1,e2,f13_eq g hv hc.2,?_,by rw[List.length_map];omega,λb hb=>?_,by have:=ge g a;omega⟩
    ·unfold f14
     rw[hv',bnS,h26,g.n38 a hc.2.1 hc.2.2];rfl
    ·obtain⟨h,_,rfl⟩:=List.mem_map.1 hb
     have:=ul t (HL t R a) (E h)
     unfold bk1
     show(tg t (HL t R a) (E h)).length≤_
     omega
   ·refine⟨[],2,[],?_,?_,f13_no hv hc,?_,sM,sM,sM⟩
    ·unfold f10
     rw[hv,bnS]
     have:((!MayB t||decide (a<0))||decide (a≥(t.insns.length:Int)))=true:=by
      cases hm:MayB t with
      |false=>rfl
      |true=>
       simp only[Bool.not_true,Bool.false_or,Bool.or_eq_true,decide_eq_true_eq]
       have hc2:¬(0≤a∧a<t.insns.length):=λh=>hc ⟨hm,h⟩
       omega
     rw[this];rfl
    ·unfold f11
     have:(!MayB t|| !f26 t a)=true:=by
      cases hm:MayB t with
      |false=>rfl
      |true=>
       have hc2:¬(0≤a∧a<t.insns.length):=λh=>hc ⟨hm,h⟩
       unfold f26
       simp only[Bool.not_true,Bool.false_or,Bool.not_eq_true',Bool.and_eq_false_iff,decide_eq_false_iff_not]
       omega
     rw[hv',bnS,this];rfl
    ·unfold f14
     have:(!MayB t|| !f26 t a)=true:=by
      cases hm:MayB t with
      |false=>rfl
      |true=>
       have hc2:¬(0≤a∧a<t.insns.length):=λh=>hc ⟨hm,h⟩
       unfold f26
       simp only[Bool.not_true,Bool.false_or,Bool.not_eq_true',Bool.and_eq_false_iff,decide_eq_false_iff_not]
       omega
     rw[hv',bnS,this];rfl
  obtain⟨BL,c,L,e1,e2,e3,e4,l1,l2,l3⟩:=key
  rw[e1,e2,e3,e4]
  simp only[bnS]
  rw[az,f12_self L l3]
  simp only[bnS,cdT]
  rw[f15_self BL l1 l2]
  simp only[bnS,cdT,decide_true,f9]
theorem f27_l1e(l:List Int)(n:Int)(hl:l.length≤100000):∀(m i:Nat),i≤l.length→l.length<m+i→f27_l1 l n (λ_=>some false) m (i:Int)=some (decide (n∈l.drop i))
 |0,i,_,h=>oM
 |m+1,i,hi,hm=>by
  rw[f27_l1]
  by_cases hlt:i<l.length
  ·rw[ltb hlt,cdT,br hlt,bnS,List.drop_eq_getElem_cons hlt]
   by_cases hx:l[i]=n
   ·rw[dcT hx,cdT,dcT (by rw[hx];exact List.mem_cons_self)]
   ·rw[dcF hx,cdF,w1n oM,f27_l1e l n hl m (i+1) oM oM]
    congr 1
    exact decide_eq_decide.2 ⟨λh=>List.mem_cons_of_mem _ h,λh=>by
     rcases List.mem_cons.1 h with h|h
     ·exact absurd h.symm hx
     ·exact h⟩
  ·rw[ltf hlt,cdF,List.drop_eq_nil_of_le oM];simp
theorem f27e(l:List Int)(n:Int)(hl:l.length≤100000):f27 l n=some (decide (n∈l)):=by
 obtain⟨B,hB⟩:∃F:Nat,F=9223372036854775808:=⟨_,rfl⟩
 unfold f27
 rw[←hB,az]
 have:=f27_l1e l n hl B 0 (Nat.zero_le _) oM
 simpa using this
theorem f27w_l1e(l:List Int)(n:Int)(hl:l.length≤100000):∀(m i:Nat),i≤l.length→l.length<m+i→f27w_l1 l n (λ_=>some (false,l)) m (i:Int)=some (decide (n∈l.drop i),l)
 |0,i,_,h=>oM
 |m+1,i,hi,hm=>by
  rw[f27w_l1]
  by_cases hlt:i<l.length
  ·rw[ltb hlt,cdT,br hlt,bnS,List.drop_eq_getElem_cons hlt]
   by_cases hx:l[i]=n
   ·rw[dcT hx,cdT,dcT (by rw[hx];exact List.mem_cons_self)]
   ·rw[dcF hx,cdF,w1n oM,f27w_l1e l n hl m (i+1) oM oM]
    congr 2
    exact decide_eq_decide.2 ⟨λh=>List.mem_cons_of_mem _ h,λh=>by
     rcases List.mem_cons.1 h with h|h
     ·exact absurd h.symm hx
     ·exact h⟩
  ·rw[ltf hlt,cdF,List.drop_eq_nil_of_le oM];simp
theorem f27we(l:List Int)(n:Int)(hl:l.length≤100000):f27w l n=some (decide (n∈l),l):=by
 obtain⟨B,hB⟩:∃F:Nat,F=9223372036854775808:=⟨_,rfl⟩
 unfold f27w
 rw[←hB,az]
 have:=f27w_l1e l n hl B 0 (Nat.zero_le _) oM
 simpa using this
theorem f5_l4e{t:ah}(g:GT t){f:Int}(hf:0≤f∧f<t.insns.length)(K:List Int→Option Bool)(X:List Int)(hX:∀z∈X,Rc t f z)(hXl:X.length≤100):∀(n j:Nat)(L:List Int),L.Nodup→(∀z∈L,Rc t f z)→j≤X.length→X.length<n+j→∃L',f5_l4 t K X n (j:Int) L=K L'∧L'.Nodup∧(∀z∈L',Rc t f z)∧(∃M,L'=L++M)∧∀z∈X.drop j,z∈L'
 |0,j,_,_,_,_,h=>oM
 |n+1,j,L,hn,hr,hj,hm=>by
  have hLl:L.length≤100:=Nat.le_trans (eL hn λz hz=>(hr z hz).rng g hf) g.le
  rw[f5_l4]
  by_cases hlt:j<X.length
  ·have hx:=hX _ (List.getElem_mem hlt)
   have h0:=hx.rng g hf
   rw[ltb hlt,cdT,az,br hlt]
   simp only[bnS]
   rw[dcF (show¬X[j]<0 by omega),cdF]
   simp only[bnS]
   rw[dcF (show¬X[j]≥(t.insns.length:Int) by omega),cdF,f27we L X[j] oM]
   simp only[bnS]
   rw[w1n oM,List.drop_eq_getElem_cons hlt]
   by_cases hm':X[j]∈L
   ·rw[dcT hm',Bool.not_true,cdF]
    obtain⟨L',e,h1,h2,⟨M,h3⟩,h4⟩:=f5_l4e g hf K X hX hXl n (j+1) L hn hr oM oM
    refine⟨L',e,h1,h2,⟨M,h3⟩,λz hz=>?_⟩
    rcases List.mem_cons.1 hz with hz|hz
    ·rw[hz,h3];exact List.mem_append_left _ hm'
    ·exact h4 z hz
   ·rw[dcF hm',Bool.not_false,cdT,aX _ (fU (by simp;omega))]
    obtain⟨L',e,h1,h2,⟨M,h3⟩,h4⟩:=f5_l4e g hf K X hX hXl n (j+1) (L++ [X[j]]) (by
     rw[List.nodup_append]
     exact⟨hn,sM,λa ha b hb=>by rw[List.mem_singleton.1 hb];exact λe=>hm' (e▸ha)⟩) (λz hz=>by
     rcases List.mem_append.1 hz with hz|hz
     ·exact hr z hz
     ·rw[List.mem_singleton.1 hz];exact hx) oM oM
    refine⟨L',e,h1,h2,⟨X[j]::M,by rw[h3];simp only[List.append_assoc,List.singleton_append]⟩,λz hz=>?_⟩
    rcases List.mem_cons.1 hz with hz|hz
    ·rw[hz,h3];exact List.mem_append_left _ sM
    ·exact h4 z hz
  ·rw[ltf hlt,cdF]
   exact⟨L,rfl,hn,hr,⟨[],sM⟩,λz hz=>by rw[List.drop_eq_nil_of_le oM] at hz;simp at hz⟩
theorem f5_l3e{t:ah}(g:GT t)(hv:f31 t=some true){f:Int}(hf:0≤f∧f<t.insns.length)(K:List Int→Option Bool)(B:Nat)(hB:B=9223372036854775808):∀(n i:Nat)(L:List Int),L.Nodup→f∈L→(∀z∈L,Rc t f z)→(∀j,∀h:j<L.length,j<i→∀z∈nx t L[j],z∈L)→i≤L.length→100<n+i→∃L',f5_l3 t K n (i:Int) L=K L'∧L'.Nodup∧∀z,z∈L'↔Rc t f z
 |0,i,L,hn,_,hr,_,hi,h=>by
  have hLl:L.length≤100:=Nat.le_trans (eL hn λz hz=>(hr z hz).rng g hf) g.le
  omega
 |n+1,i,L,hn,hfl,hr,hc,hi,hm=>by
  have hLl:L.length≤100:=Nat.le_trans (eL hn λz hz=>(hr z hz).rng g hf) g.le
  rw[f5_l3,←hB]
  by_cases hlt:i<L.length
  ·have hx:=hr _ (List.getElem_mem hlt)
   have h0:=hx.rng g hf
   rw[ltb hlt,cdT,az,br hlt,bnS,f13_eq g hv h0,bnS]
   have hxl:=ge g L[i]
   obtain⟨L',e,h1,h2,⟨M,h3⟩,h4⟩:=f5_l4e g hf (λlw324=>f5_l3 t K n (IntKind.i64.wrap ((i:Int)+1)) lw324) (nx t L[i]) (λz hz=> .step hx hz) hxl B 0 L hn hr (Nat.zero_le _) oM
   rw[show((0:Nat):Int)=0 from rfl] at e
   rw[e,w1n oM]
   rw[List.drop_zero] at h4
   refine f5_l3e g hv hf K B hB n (i+1) L' h1 (by rw[h3];exact List.mem_append_left _ hfl) h2 (λj h hji z hz=>?_) (by rw[h3];simp;omega) oM
   have hjL:j<L.length:=oM
   have ej:L'[j]=L[j]:=by subst h3;exact List.getElem_append_left hjL
   rw[ej] at hz
   by_cases hj:j=i
   ·subst hj;exact h4 z hz
   ·rw[h3];exact List.mem_append_left _ (hc j hjL oM z hz)
  ·rw[ltf hlt,cdF]
   refine⟨L,rfl,hn,λz=>⟨hr z,λhz=>?_⟩⟩
   induction hz with
   |base=>exact hfl
   |step _ h2 ih=>
    obtain⟨j,hj,e⟩:=List.getElem_of_mem ih
    exact hc j hj oM _ (by rw[e];exact h2)
theorem pX{t:ah}(g:GT t){f:Int}(hf:0≤f∧f<t.insns.length){R:List Int}{E:Int→Int}(b:BkS t f R E):∀(d:Nat)(x:Int),x≤d→x∈R→∃h∈HL t R f,h≤x∧x≤E h
 |0,x,hd,hx=>by
  have h0:=b.rl.rng g hf hx
  refine⟨x,(oL b.rl).2 ⟨hx,?_⟩,Int.le_refl _,(b.en x hx).le⟩
  cases hj:jn t R f (x - 1) with
  |false=>exact .inr rfl
  |true=>have:=b.rl.rng g hf (jj.1 hj).1;omega
 |d+1,x,hd,hx=>by
  cases hj:jn t R f (x - 1) with
  |false=>exact⟨x,(oL b.rl).2 ⟨hx, .inr hj⟩,Int.le_refl _,(b.en x hx).le⟩
  |true=>
   have h1:=(jj.1 hj).1
   obtain⟨h,m,h2,h3⟩:=pX g hf b d (x - 1) oM h1
   have hn:=(b.en h (jr b.rl m)).no
   have:E h≠x - 1:=λe=>by rw[e,hj] at hn;cases hn
   exact⟨h,m,oM,oM⟩
theorem pW{t:ah}{f:Int}{R:List Int}{E:Int→Int}(b:BkS t f R E){h h' x:Int}(m:h∈HL t R f)(m':h'∈HL t R f)(h1:h<h')(h2:h'≤x)(h3:x≤E h):False:=by
 have hj:=(b.en h (jr b.rl m)).yes (h' - 1) oM oM
 rcases((oL b.rl).1 m').2 with e|e
 ·have:=(jj.1 hj).2.2.1
  omega
 ·rw[hj] at e;cases e
def cv(E:Int→Int)(x h:Int):Bool:=decide (h≤x)&&decide (x≤E h)
theorem xJ{t:ah}(g:GT t){f:Int}(hf:0≤f∧f<t.insns.length){R:List Int}{E:Int→Int}(b:BkS t f R E)(x:Int):((HL t R f).filter (cv E x)).length=if x∈R then 1 else 0:=by
 by_cases hx:x∈R
 ·rw[if_pos hx]
  have h0:=b.rl.rng g hf hx
  obtain⟨h,m,h1,h2⟩:=pX g hf b x.toNat x oM hx
  have hp:((HL t R f).filter (cv E x)).Perm [h]:=by
   refine(List.perm_ext_iff_of_nodup ((yK b.rl).filter _) sM).2 λz=>?_
   rw[List.mem_filter,List.mem_singleton]
   unfold cv
   simp only[Bool.and_eq_true,decide_eq_true_eq]
   constructor
   ·rintro⟨m',z1,z2⟩
    rcases Int.lt_trichotomy z h with e|e|e
    ·exact(pW b m' m e h1 z2).elim
    ·exact e
    ·exact(pW b m m' e z1 h2).elim
   ·rintro rfl;exact⟨m,h1,h2⟩
  rw[hp.length_eq];rfl
 ·rw[if_neg hx]
  rw[List.length_eq_zero_iff,List.filter_eq_nil_iff]
  intro h m hc
  unfold cv at hc
  simp only[Bool.and_eq_true,decide_eq_true_eq] at hc
  have en:=b.en h (jr b.rl m)
  by_cases he:x=E h
  ·exact hx (he▸en.mem)
  ·exact hx (jj.1 (en.yes x hc.1 oM)).1
def mR(N:Nat)(u:Nat→Int):List Int:=(List.range N).map u
theorem zA(N:Nat)(u:Nat→Int):(mR N u).length=N:=by simp[mR]
theorem uL{N:Nat}{u:Nat→Int}{a:Nat}(h:a<N):idx (mR N u) (a:Int)=some (u a):=by
 rw[br (by rw[zA];exact h)]
 simp[mR]
theorem zz{N:Nat}{u:Nat→Int}{a:Nat}{v:Int}:(mR N u).set a v=mR N λx=>if x=a then v else u x:=by
 apply List.ext_getElem
 ·simp[mR]
 ·intro i h1 h2
  simp only[mR,List.length_map,List.length_range] at h2
  rw[List.getElem_set]
  simp only[mR,List.getElem_map,List.getElem_range]
  by_cases e:a=i
  ·rw[if_pos e,if_pos e.symm]
  ·rw[if_neg e,if_neg λe'=>e e'.symm]
theorem mj{N:Nat}{u v:Nat→Int}(h:∀x,u x=v x):mR N u=mR N v:=by rw[show u=v from funext h]
theorem f5_l2e(BL:List al)(c:Int)(q:Int)(x:al)(hx:idx BL q=some x)(N:Nat)(hN:N≤100)(ht:x.to≤N)(K:List Int→Option Bool):∀(n a:Nat)(u:Nat→Int),(∀z,0≤u z∧u z≤1000+a)→a≤N→N<n+a→f5_l2 (BL,c) q K n (a:Int) (mR N u)=K (mR N λz=>if a≤z∧(z:Int)<x.to then u z+1 else u z)
 |0,a,u,hu,ha,h=>oM
 |n+1,a,u,hu,ha,h=>by
  rw[f5_l2]
  simp only[hx,bnS]
  by_cases hlt:(a:Int)<x.to
  ·have h0:=hu a
   rw[dcT hlt,cdT,uL oM,bnS,bnS,w64 (x:=u a+1) oM oM,show Int.toNat (a:Int)=a from rfl,zz,w1n oM,f5_l2e BL c q x hx N hN ht K n (a+1) _ (λz=>by
    have:=hu z
    by_cases e:z=a
    ·rw[if_pos e];push_cast;omega
    ·rw[if_neg e];push_cast;omega) oM oM]
   congr 1
   refine mj λz=>?_
   by_cases e:z=a
   ·subst e
    rw[if_neg oM,if_pos rfl,if_pos ⟨Nat.le_refl _,hlt⟩]
   ·rw[if_neg e]
    by_cases e2:a≤z∧(z:Int)<x.to
    ·rw[if_pos e2,if_pos oM]
    ·rw[if_neg e2,if_neg oM]
  ·rw[dcF hlt,cdF]
   congr 1
   exact mj λz=>by rw[if_neg oM]
structure BLs(t:ah)(H:List Int)(E:Int→Int)(BL:List al):Prop where
 len:BL.length=H.length
 at_:∀i,∀h:i<H.length,idx BL (i:Int)=some (bk1 t H E H[i])
theorem BLs.of(t:ah)(H:List Int)(E:Int→Int):BLs t H E (H.map (bk1 t H E)):=⟨sM,λi h=>by rw[br (by simpa using h)];simp⟩
def cvn(H:List Int)(E:Int→Int)(i z:Nat):Int:=(((H.take i).filter (cv E (z:Int))).length:Int)
theorem f5_l1e{t:ah}(g:GT t){f:Int}(hf:0≤f∧f<t.insns.length){R:List Int}{E:Int→Int}(b:BkS t f R E){BL:List al}{c:Int}(hB:BLs t (HL t R f) E BL)(K:List Int→Option Bool)(B:Nat)(hBB:B=9223372036854775808):∀(n i:Nat),i≤(HL t R f).length→(HL t R f).length<n+i→f5_l1 t (BL,c) K n (i:Int) (mR t.insns.length (cvn (HL t R f) E i))=K (mR t.insns.length (cvn (HL t R f) E (HL t R f).length))
 |0,i,_,h=>oM
 |n+1,i,hi,hn=>by
  have hHl:=mL g hf b.rl
  rw[f5_l1,←hBB,hB.len]
  by_cases hlt:i<(HL t R f).length
  ·have hm:=jr b.rl (List.getElem_mem hlt)
   have en:=b.en _ hm
   have h0:=b.rl.rng g hf hm
   have he:=b.rl.rng g hf en.mem
   have hle:=en.le
   have hg:=g.le
   have ih:=f5_l1e g hf b hB K B hBB n (i+1) (c:=c) oM oM
   obtain⟨a,ha⟩:=Int.eq_ofNat_of_zero_le h0.1
   rw[ltb hlt,cdT,az]
   simp only[hB.at_ i hlt,bnS]
   rw[show(bk1 t (HL t R f) E (HL t R f)[i]).from_=(HL t R f)[i] from rfl,show(bk1 t (HL t R f) E (HL t R f)[i]).to=E (HL t R f)[i]+1 from rfl,dcF (show¬(HL t R f)[i]<0 by omega),dcF (show¬(HL t R f)[i]≥E (HL t R f)[i]+1 by omega),dcF (show¬E (HL t R f)[i]+1>(t.insns.length:Int) by omega)]
   simp only[cdF,bnS]
   rw[ha,f5_l2e BL c i _ (hB.at_ i hlt) t.insns.length g.le (by show E (HL t R f)[i]+1≤_;omega) _ B a _ (λz=>by
    unfold cvn
    have:=List.length_filter_le (cv E (z:Int)) ((HL t R f).take i)
    rw[List.length_take] at this
    omega) oM oM]
   rw[w1n oM,←ih]
   congr 1
   refine mj λz=>?_
   unfold cvn
   rw[List.take_add_one,geG hlt,List.filter_append,List.length_append]
   show(if a≤z∧(z:Int)<E (HL t R f)[i]+1 then _ else _)=_
   simp only[Option.toList_some,List.filter_cons,List.filter_nil]
   unfold cv
   by_cases e:a≤z∧(z:Int)<E (HL t R f)[i]+1
   ·rw[if_pos e,dcT (show(HL t R f)[i]≤(z:Int) by omega),dcT (show(z:Int)≤E (HL t R f)[i] by omega)]
    simp
   ·rw[if_neg e]
    have:(decide ((HL t R f)[i]≤(z:Int))&&decide ((z:Int)≤E (HL t R f)[i]))=false:=by
     simp only[Bool.and_eq_false_iff,decide_eq_false_iff_not]
     omega
    rw[this]
    simp
  ·rw[ltf hlt,cdF,show i=(HL t R f).length by omega]
theorem f5_l5e{t:ah}(g:GT t){L U R:List Int}(hLl:L.length≤100)(hL:∀z,z∈L↔z∈R)(hU:∀a:Nat,a<t.insns.length→idx U (a:Int)=some (if(a:Int)∈R then 1 else 0))(K:Unit→Option Bool):∀(n a:Nat),a≤t.insns.length→t.insns.length<n+a→f5_l5 t U L K n (a:Int)=K ()
 |0,a,_,h=>oM
 |n+1,a,hi,hn=>by
  have hg:=g.le
  rw[f5_l5]
  by_cases hlt:a<t.insns.length
  ·rw[ltb hlt,cdT,f27e L a oM,bnS,hU a hlt,bnS,bnS,w1n oM,f5_l5e g hLl hL hU K n (a+1) oM oM]
   by_cases hm:(a:Int)∈R
   ·rw[if_pos hm,dcT ((hL _).2 hm)];rfl
   ·rw[if_neg hm,dcF λh=>hm ((hL _).1 h)];rfl
  ·rw[ltf hlt,cdF]
theorem f5_l8e{t:ah}(g:GT t)(hv:f31 t=some true){L:List Int}(hLl:L.length≤100)(hLr:∀z∈L,0≤z∧z<(t.insns.length:Int)){a:Int}(ha:0≤a∧a<t.insns.length)(hu:∀z∈L,z≠a→a+1∉nx t z)(K:Unit→Option Bool):∀(n k:Nat),k≤L.length→L.length<n+k→f5_l8 t L a K n (k:Int)=K ()
 |0,a,_,h=>oM
 |n+1,k,hi,hn=>by
  have hg:=g.le
  rw[f5_l8]
  by_cases hlt:k<L.length
  ·have hm:=List.getElem_mem hlt
   have h0:=hLr _ hm
   rw[ltb hlt,cdT,az,br hlt,bnS,bnS,w1n oM,f5_l8e g hv hLl hLr ha hu K n (k+1) oM oM,f13_eq g hv h0,bnS,w64 (x:=a+1) oM oM]
   by_cases e:L[k]=a
   ·rw[dcT e];rfl
   ·have hxl:=ge g L[k]
    rw[dcF e,f27e _ _ oM,dcF (hu _ hm e)];rfl
  ·rw[ltf hlt,cdF]
theorem f5_l7e{t:ah}(g:GT t)(hv:f31 t=some true){L R:List Int}{f:Int}(hLl:L.length≤100)(hL:∀z,z∈L↔z∈R)(hLr:∀z∈L,0≤z∧z<(t.insns.length:Int)){BL:List al}{c q:Int}{x:al}(hx:idx BL q=some x){e:Int}(he:x.to=e+1)(hel:e<t.insns.length)(K:Unit→Option Bool)(B:Nat)(hBB:B=9223372036854775808):∀(n:Nat)(a:Int),0≤a→a≤e→e - a<n→(∀z,a≤z→z<e→jn t R f z=true)→f5_l7 t (BL,c) L q K n a=K ()
 |0,a,_,_,h,_=>oM
 |n+1,a,h0,h1,hn,hj=>by
  have hg:=g.le
  rw[f5_l7,←hBB]
  simp only[hx,bnS]
  rw[w64 (x:=a+1) oM oM,he]
  by_cases hlt:a<e
  ·have hja:=jj.1 (hj a (Int.le_refl _) hlt)
   have ha:0≤a∧a<t.insns.length:=oM
   have hu:∀z∈L,z≠a→a+1∉nx t z:=λz hz hza hm=>by
    have h4:=hja.2.2.2
    unfold cnR at h4
    obtain⟨y,hy⟩:=List.length_eq_one_iff.1 h4
    have m1:z∈R.filter λk=>decide (a+1∈nx t k):=List.mem_filter.2 ⟨(hL z).1 hz,dcT hm⟩
    have m2:a∈R.filter λk=>decide (a+1∈nx t k):=List.mem_filter.2 ⟨hja.1,dcT (by rw[hja.2.1];simp)⟩
    rw[hy] at m1 m2
    exact hza ((List.mem_singleton.1 m1).trans (List.mem_singleton.1 m2).symm)
   have ih:=f5_l7e g hv hLl hL hLr (c:=c) hx he hel K B hBB n (a+1) oM oM oM λz h2 h3=>hj z oM h3
   have h8:=f5_l8e g hv hLl hLr ha hu (λ_=>f5_l7 t (BL,c) L q K n (a+1)) B 0 (Nat.zero_le _) oM
   rw[show((0:Nat):Int)=0 from rfl] at h8
   rw[dcT (show a+1<e+1 by omega),cdT,az,f13_eq g hv ha,bnS,hja.2.1,h8,ih]
   have:idx [a+1] 0=some (a+1):=rfl
   rw[this,bnS,dcT (show a+1=a+1 from rfl)]
   rfl
  ·rw[dcF oM,cdF]
theorem yX{t:ah}{H:List Int}{e:Int}{j:Nat}(h:j<H.length):(j:Int)∈tg t H e↔H[j]∈nx t e:=by
 unfold tg
 rw[List.mem_map]
 constructor
 ·rintro⟨k,hk,e1⟩
  have:k=j:=oM
  subst this
  have h2:=(List.mem_filter.1 hk).2
  unfold hB at h2
  rw[geG h] at h2
  exact of_decide_eq_true h2
 ·intro h1
  refine⟨j,List.mem_filter.2 ⟨List.mem_range.2 h,?_⟩,rfl⟩
  unfold hB
  rw[geG h]
  exact dcT h1
theorem f5_l9e{t:ah}(g:GT t){H:List Int}(hHl:H.length≤101){E:Int→Int}{BL:List al}{c:Int}(hB:BLs t H E BL){q:Nat}(hq:q<H.length)(K:Unit→Option Bool):∀(n j:Nat),j≤H.length→H.length<n+j→f5_l9 (BL,c) (q:Int) K (nx t (E H[q])) n (j:Int)=K ()
 |0,a,_,h=>oM
 |n+1,j,hi,hn=>by
  rw[f5_l9,hB.len]
  by_cases hlt:j<H.length
  ·have hxl:=ge g (E H[q])
   have htl:=ul t H (E H[q])
   rw[ltb hlt,cdT,hB.at_ q hq,bnS,hB.at_ j hlt,w1n oM,f5_l9e g hHl hB hq K n (j+1) oM oM]
   rw[show(bk1 t H E H[q]).next=tg t H (E H[q]) from rfl,f27e _ _ oM,bnS,bnS,show(bk1 t H E H[j]).from_=H[j] from rfl,f27e _ _ oM,bnS,show decide ((j:Int)∈tg t H (E H[q]))=decide (H[j]∈nx t (E H[q])) from decide_eq_decide.2 (yX hlt)]
   cases decide (H[j]∈nx t (E H[q]))<;>rfl
  ·rw[ltf hlt,cdF]
theorem f5_l6e{t:ah}(g:GT t)(hv:f31 t=some true){f:Int}(hf:0≤f∧f<t.insns.length){R:List Int}{E:Int→Int}(b:BkS t f R E){L:List Int}(hLl:L.length≤100)(hL:∀z,z∈L↔z∈R){BL:List al}{c:Int}(hB:BLs t (HL t R f) E BL)(K:Unit→Option Bool)(B:Nat)(hBB:B=9223372036854775808):∀(n i:Nat),i≤(HL t R f).length→(HL t R f).length<n+i→f5_l6 t (BL,c) L K n (i:Int)=K ()
 |0,a,_,h=>oM
 |n+1,i,hi,hn=>by
  have hHl:=mL g hf b.rl
  have hg:=g.le
  rw[f5_l6,←hBB,hB.len]
  by_cases hlt:i<(HL t R f).length
  ·have hm:=jr b.rl (List.getElem_mem hlt)
   have en:=b.en _ hm
   have h0:=b.rl.rng g hf hm
   have he:=b.rl.rng g hf en.mem
   have hle:=en.le
   rw[ltb hlt,cdT,az,az]
   simp only[hB.at_ i hlt,bnS]
   rw[show(bk1 t (HL t R f) E (HL t R f)[i]).from_=(HL t R f)[i] from rfl,show(bk1 t (HL t R f) E (HL t R f)[i]).to=E (HL t R f)[i]+1 from rfl]
   have h9:=λK=>f5_l9e g hHl (c:=c) hB hlt K B 0 (Nat.zero_le _) oM
   simp only[show((0:Nat):Int)=0 from rfl] at h9
   rw[f5_l7e g hv hLl hL (λz hz=>b.rl.rng g hf ((hL z).1 hz)) (hB.at_ i hlt) (e:=E (HL t R f)[i]) rfl he.2 _ B hBB B _ h0.1 hle oM en.yes]
   rw[show IntKind.i64.wrap (E (HL t R f)[i]+1 - 1)=E (HL t R f)[i] by rw[w64 oM oM];omega,f13_eq g hv he,bnS,h9,w1n oM]
   exact f5_l6e g hv hf b hLl hL hB K B hBB n (i+1) oM oM
  ·rw[ltf hlt,cdF]
theorem qW(t:ah)(f:Int)(hs:Sz t)(ha:SzA t):f5 t f=some true:=by
 unfold f5
 cases h8:f8 t with
 |true=>rfl
 |false=>
  have hN:=f8_small h8
  have hv:=f31_eq t hs
  have hv':=f25_eq t hs ha
  obtain⟨B,hBB⟩:∃F:Nat,F=9223372036854775808:=⟨_,rfl⟩
  rw[cdF,hv',bnS,bnS,←hBB]
  by_cases hc:MayB t=true∧0≤f∧f<t.insns.length
  ·have hf:=hc.2
   rw[hc.1] at hv hv'
   have g:=GT.of hs hc.1 hN
   obtain⟨R,E,b,e1,_⟩:=nE g hf hv hv'
   have hHl:=mL g hf b.rl
   have h26:f26 t f=true:=by unfold f26;rw[dcT oM,dcT oM];rfl
   have hBL:=BLs.of t (HL t R f) E
   rw[hc.1,h26,e1,bnS]
   generalize(HL t R f).map (bk1 t (HL t R f) E)=BL at hBL
   have hpos:0<(HL t R f).length:=by unfold HL;simp
   have hh0:(HL t R f)[0]=f:=by unfold HL;rfl
   have h0:=hBL.at_ 0 hpos
   rw[show((0:Nat):Int)=0 from rfl] at h0
   rw[show(!true|| !true)=false from rfl,cdF]
   have hb:(bif ((!decide ((0:Int)=0))||(decide ((List.length BL:Int)=0))) then some true else(Option.bind (idx BL 0) λx284=>some (!decide (x284.from_=f))))=some false:=by
    rw[h0,hBL.len,dcF (show¬((HL t R f).length:Int)=0 by omega)]
    simp only[decide_true,Bool.not_true,Bool.or_self,cdF,bnS]
    rw[show(bk1 t (HL t R f) E (HL t R f)[0]).from_=(HL t R f)[0] from rfl,hh0]
    simp
   rw[hb,bnS,cdF,aX _ (zy dC oM),az]
   simp only[az]
   have hrep:List.replicate (Int.toNat (t.insns.length:Int)) (0:Int)=mR t.insns.length (cvn (HL t R f) E 0):=by
    apply List.ext_getElem
    ·simp[mR]
    ·intro i h1 h2
     simp[mR,cvn]
   have h1:=λK=>f5_l1e g hf b (c:=0) hBL K B hBB B 0 (Nat.zero_le _) oM
   simp only[show((0:Nat):Int)=0 from rfl] at h1
   rw[hrep,h1]
   obtain⟨L,e3,l1,l2⟩:=f5_l3e g hv hf (λlw312=>f5_l5 t (mR t.insns.length (cvn (HL t R f) E (HL t R f).length)) lw312 (λ_=>f5_l6 t (BL,0) lw312 (λ_=>Option.bind f9 λr389=>some r389) B 0) B 0) B hBB B 0 [f] sM sM (λz hz=>by rw[List.mem_singleton.1 hz];exact .base) (λj h hj=>oM) (Nat.zero_le _) oM
   rw[show((0:Nat):Int)=0 from rfl] at e3
   have hLR:∀z,z∈L↔z∈R:=λz=>by rw[l2,b.rl.mem]
   have hLl:L.length≤100:=Nat.le_trans (eL l1 λz hz=>b.rl.rng g hf ((hLR z).1 hz)) g.le
   refine Eq.trans e3 ?_
   have h5:=λK=>f5_l5e g hLl hLR (U:=mR t.insns.length (cvn (HL t R f) E (HL t R f).length)) (λa ha=>by
    rw[uL ha]
    unfold cvn
    rw[List.take_length,xJ g hf b]
    by_cases hm:(a:Int)∈R
    ·rw[if_pos hm,if_pos hm];rfl
    ·rw[if_neg hm,if_neg hm];rfl) K B 0 (Nat.zero_le _) oM
   have h6:=λK=>f5_l6e g hv hf b hLl hLR (c:=0) hBL K B hBB B 0 (Nat.zero_le _) oM
   simp only[show((0:Nat):Int)=0 from rfl] at h5 h6
   rw[h5,h6]
   rfl
  ·have:(!MayB t|| !f26 t f)=true:=by
    cases hm:MayB t with
    |false=>rfl
    |true=>
     have hc2:¬(0≤f∧f<t.insns.length):=λh=>hc ⟨hm,h⟩
     unfold f26
     simp only[Bool.not_true,Bool.false_or,Bool.not_eq_true',Bool.and_eq_false_iff,decide_eq_false_iff_not]
     omega
   rw[this];rfl
end Go.Proofs.YtpodhdopgcedlaaGreatDoor
