/- Part of the proof. -/
import Derived.Test.YtkbahggepncliaaGreatDoorO
import Derived.Test.YtkbahggepncliaaGreatDoorLa
set_option linter.unusedVariables false
set_option linter.unusedSimpArgs false
set_option linter.unusedSectionVars false
set_option linter.unnecessarySimpa false
set_option maxRecDepth 10000
namespace Go.Proofs.YtkbahggepncliaaGreatDoor
open Go Go.Sk
theorem vL(t:ai)(hv:VT t)(tR:Nat→Int)(tP tX tD:Int)(hR:∀j,I64 (tR j))(N:List Int)(S:List (List Int))(U:List Int)(x:ap)
  (h1:f31 t (aI.mk tR tP tX tD)=true)(h2:idx t.insns tP=some x)(h3:f50 x.op=true)(hn:I64 x.n)(hd:0≤tD∧tD≤1000000)(hS:Shape t.objs S)(hs2:∀r∈S,r.length≤1000000000000)(hU:U.length≤1000000)
  (hO:∀y∈t.objs,y.set_.length<9223372036854775808∧∀n∈y.set_,0≤n∧n<9223372036854775807):
  ∃rz s,fm (mth x.op) tR tP tX tD t.insns t.handlers t.objs t.excs N S U [] x=some rz∧f17 (Mem.mk t S N U) (aI.mk tR tP tX tD)=mG (Mem.mk t S N U) s∧Rel t rz s:=by
 have hop:1≤x.op∧x.op≤41:=by
  unfold f50 at h3
  simp only[Bool.and_eq_true,decide_eq_true_eq] at h3
  omega
 have hf:=hv.fits x (cr h2)
 have hm:eA x=true:=by
  unfold gk at hf
  rw[Bool.and_eq_true] at hf
  exact hf.1
 have hx:=nm hm hop
 have hl:=hv.n.2
 have hH:=hv.hdls
 have hp:0≤tP∧tP<(t.insns.length:Int):=cU h2
 have hSl:S.length=t.objs.length:=hS.len
 have hobj:=hv.objs
 have hE:=hv.excs
 rcases(show(x.op=3∨x.op=5∨x.op=7)∨(x.op=4∨x.op=6∨x.op=8)∨(x.op=29∨x.op=30∨x.op=31∨x.op=32)∨(x.op=27∨x.op=28)∨(x.op=33∨x.op=34∨x.op=35)∨(x.op=37∨x.op=39)∨x.op=38∨(x.op=1∨x.op=2∨x.op=36∨x.op=40∨x.op=41)∨(9≤x.op∧x.op≤26) by omega) with h|h|h|h|h|h|h|h|h
 ·obtain⟨r,s,a,b,c⟩:=s81 t hl tR tP tX tD hp t.handlers t.excs N S U x hx hSl (pX t hv tR x S hS hf oM) h
  refine⟨_,s,?_,f17_51 (Mem.mk t S N U) (aI.mk tR tP tX tD) x h1 h2 h3 s b oM,c⟩
  have e:mth x.op=81:=by rcases h with e|e|e<;>rw[e]<;>rfl
  rw[e]
  show Option.bind (f81 tR tP tX tD t.insns t.handlers t.objs t.excs N S U [] x) _=_
  rw[a];rfl
 ·obtain⟨r,s,a,b,c⟩:=s82 t hl tR tP tX tD hp t.handlers t.excs N S U hR x hx hO hSl oM hs2 (pX t hv tR x S hS hf oM) h
  refine⟨_,s,?_,f17_51 (Mem.mk t S N U) (aI.mk tR tP tX tD) x h1 h2 h3 s b oM,c⟩
  have e:mth x.op=82:=by rcases h with e|e|e<;>rw[e]<;>rfl
  rw[e]
  show Option.bind (f82 tR tP tX tD t.insns t.handlers t.objs t.excs N S U [] x) _=_
  rw[a];rfl
 ·obtain⟨r,s,a,b,c⟩:=s83 t hl tR tP tX tD hp hR t.handlers t.objs t.excs N S U x hx hm hn h
  refine⟨_,s,?_,f17_52 (Mem.mk t S N U) (aI.mk tR tP tX tD) x h1 h2 h3 s b h,c⟩
  have e:mth x.op=83:=by rcases h with e|e|e|e<;>rw[e]<;>rfl
  rw[e]
  show Option.bind (f83 tR tP tX tD t.insns t.handlers t.objs t.excs N S U [] x) _=_
  rw[a];rfl
 ·obtain⟨r,s,a,b,c⟩:=s84 t hl hH tR tP tX tD hp t.objs N S U x hx t.excs h
  refine⟨_,s,?_,f17_53 (Mem.mk t S N U) (aI.mk tR tP tX tD) x h1 h2 h3 s b oM,c⟩
  have e:mth x.op=84:=by rcases h with e|e<;>rw[e]<;>rfl
  rw[e]
  show Option.bind (f84 tR tP tX tD t.insns t.handlers t.objs t.excs N S U [] x) _=_
  rw[a];rfl
 ·obtain⟨r,s,a,b,c⟩:=s85 t hl hH tR tP tX tD hp t.objs N S U x hx oM hm h
  refine⟨_,s,?_,f17_53 (Mem.mk t S N U) (aI.mk tR tP tX tD) x h1 h2 h3 s b oM,c⟩
  have e:mth x.op=85:=by rcases h with e|e|e<;>rw[e]<;>rfl
  rw[e]
  show Option.bind (f85 tR tP tX tD t.insns t.handlers t.objs t.excs N S U [] x) _=_
  rw[a];rfl
 ·obtain⟨r,s,a,b,c⟩:=s86a t hl tR tP tX tD hp t.objs t.excs N S U x hx hU h
  refine⟨_,s,?_,f17_54 (Mem.mk t S N U) (aI.mk tR tP tX tD) x h1 h2 h3 s b oM,c⟩
  have e:mth x.op=86:=by rcases h with e|e<;>rw[e]<;>rfl
  rw[e]
  show Option.bind (f86 tR tP tX tD t.insns t.handlers t.objs t.excs N S U [] x) _=_
  rw[a];rfl
 ·obtain⟨r,s,a,b,c⟩:=s86b t hl hH tR tP tX tD hp t.objs t.excs N S U x hx h
  refine⟨_,s,?_,f17_53 (Mem.mk t S N U) (aI.mk tR tP tX tD) x h1 h2 h3 s b oM,c⟩
  have e:mth x.op=86:=by rw[h];rfl
  rw[e]
  show Option.bind (f86 tR tP tX tD t.insns t.handlers t.objs t.excs N S U [] x) _=_
  rw[a];rfl
 ·obtain⟨r,s,a,b,c⟩:=s87 t hl tR tP tX tD hp hd t.handlers t.objs t.excs N S U x hx h
  refine⟨_,s,?_,f17_54 (Mem.mk t S N U) (aI.mk tR tP tX tD) x h1 h2 h3 s b oM,c⟩
  have e:mth x.op=87:=by rcases h with e|e|e|e|e<;>rw[e]<;>rfl
  rw[e]
  show Option.bind (f87 tR tP tX tD t.insns t.handlers t.objs t.excs N S U [] x) _=_
  rw[a];rfl
 ·obtain⟨r,s,a,b,c⟩:=s88 t hl tR tP tX tD hp hR t.handlers t.objs t.excs N S U x hx h
  refine⟨_,s,?_,f17_54 (Mem.mk t S N U) (aI.mk tR tP tX tD) x h1 h2 h3 s b oM,c⟩
  have e:mth x.op=88:=by
   obtain⟨k,hk⟩:∃k:Nat,x.op=(k:Int)+9:=⟨(x.op - 9).toNat,oM⟩
   have key:∀k,k<18→mth ((k:Nat)+9:Int)=88:=by decide+kernel
   rw[hk];exact key k oM
  rw[e]
  show Option.bind (f88 tR tP tX tD t.insns t.handlers t.objs t.excs N S U [] x) _=_
  rw[a];rfl
theorem tT(t:ai)(hv:VT t)(tR:Nat→Int)(tP tX tD:Int)(hR:∀j,I64 (tR j))(N:List Int)(S:List (List Int))(U:List Int)
  (hn:∀x∈t.insns,I64 x.n)(hS:Shape t.objs S)(hs2:∀r∈S,r.length≤1000000000000)(hU:U.length≤1000000)
  (hO:∀y∈t.objs,y.set_.length<9223372036854775808∧∀n∈y.set_,0≤n∧n<9223372036854775807):
  ∃R' A E N' S' U',f11 t.insns t.handlers t.objs t.excs N S U (aI.mk tR tP tX tD)=some (R',A,E,N',S',U')∧f17 (Mem.mk t S N U) (aI.mk tR tP tX tD)=some (Mem.mk t S' N' U',R',A,E):=by
 have hlen:=hv.n
 have h47:f47 t.insns t.handlers t.objs t.excs N S U=some false:=by
  unfold f47
  rw[dcF (by omega:¬(t.insns.length:Int)=0)]
 have hck:(((((((decide (tP<0))||(decide (tP≥(List.length t.insns:Int))))||(decide (tX<(-2))))||(decide (tX>t.excs)))||(decide (tD<0)))||(decide (tD>1000000)))||(!true))= !(f31 t (aI.mk tR tP tX tD)):=by
  have e:f31 t (aI.mk tR tP tX tD)=(((((decide (tP≥0)&&decide (tP<(List.length t.insns:Int)))&&(decide (tX≥(-2))))&&(decide (tX≤t.excs)))&&(decide (tD≥0)))&&(decide (tD≤1000000))):=rfl
  rw[e,Bool.eq_iff_iff]
  simp only[Bool.or_eq_true,Bool.not_eq_true',Bool.and_eq_false_iff,decide_eq_true_eq,decide_eq_false_iff_not,Bool.not_true,Bool.false_eq_true,or_false]
  omega
 unfold f11 f44_45
 rw[h47,bnS,cdF]
 dsimp only
 rw[hck]
 cases h31:f31 t (aI.mk tR tP tX tD)
 ·refine⟨_,_,_,_,_,_,rfl,?_⟩
  unfold f17
  dsimp only
  rw[h31]
  rfl
 ·have hb:0≤tP∧tP<(t.insns.length:Int)∧0≤tD∧tD≤1000000:=by
   have e:f31 t (aI.mk tR tP tX tD)=(((((decide (tP≥0)&&decide (tP<(List.length t.insns:Int)))&&(decide (tX≥(-2))))&&(decide (tX≤t.excs)))&&(decide (tD≥0)))&&(decide (tD≤1000000))):=rfl
   rw[e] at h31
   simp only[Bool.and_eq_true,decide_eq_true_eq] at h31
   omega
  obtain⟨x,hx,hxm⟩:=aS (L:=t.insns) (i:=tP) ⟨hb.1,hb.2.1⟩
  have ho:=hv.sz.ops x hxm
  have h36:f36 x.op=f50 x.op:=by
   unfold f50
   by_cases h:1≤x.op∧x.op≤41
   ·rw[(f36_iff ho.1).2 h,dcT (show x.op≥1 from h.1),dcT h.2];rfl
   ·have:f36 x.op=false:=by
     cases hf:f36 x.op
     ·rfl
     ·exact absurd ((f36_iff ho.1).1 hf) h
    rw[this,eq_comm,Bool.and_eq_false_iff]
    simp only[decide_eq_false_iff_not]
    omega
  unfold f45
  rw[Bool.not_true,cdF,hx,bnS,h36]
  cases h50:f50 x.op
  ·refine⟨_,_,_,_,_,_,rfl,?_⟩
   unfold f17
   dsimp only
   rw[h31,hx,Bool.not_true,cdF,bnS,h50]
   rfl
  ·obtain⟨rz,s,a,b,c⟩:=vL t hv tR tP tX tD hR N S U x h31 hx h50 (hn x hxm) ⟨hb.2.2.1,hb.2.2.2⟩ hS hs2 hU hO
   rw[Bool.not_true,cdF,f46_eq,bnS,a,bnS,b]
   cases rz with
   |bad e=>
    obtain⟨c1,c2⟩:=c
    refine⟨_,_,_,_,_,_,rfl,?_⟩
    unfold mG
    rw[c2,dcF c1]
    rfl
   |ok z=>
    have c:s=aw.mk (Mem.mk t z.2.2.2.2.2.1 z.2.2.2.2.1 z.2.2.2.2.2.2.1) (aI.mk z.1 z.2.1 z.2.2.1 z.2.2.2.1) z.2.2.2.2.2.2.2 0:=c
    subst c
    exact⟨_,_,_,_,_,_,rfl,rfl⟩
theorem nL(v:Int):I64 (IntKind.i64.wrap v):=by
 unfold I64
 rw[IntKind.wrap_i64]
 omega
theorem uv(b:Bool):I64 (f144 b):=by
 cases b
 ·show I64 0;unfold I64;omega
 ·show I64 1;unfold I64;omega
theorem ro(k:Nat)(hk:k<18)(a b:Int)(ha:I64 a)(hb:I64 b)(z:Int×Bool)(h:f98 ((k:Int)+1) a b=some z):I64 z.1:=by
 have h0:I64 0:=by unfold I64;omega
 have hw:∀(v:Int)(c:Bool),some (IntKind.i64.wrap v,c)=some z→I64 z.1:=λv c e=>by
  have:=inS e
  subst this
  exact nL v
 have hbit:∀(v:Bool)(c:Bool),some (f144 v,c)=some z→I64 z.1:=λv c e=>by
  have:=inS e
  subst this
  exact uv v
 rw[←jv k hk a b ha hb] at h
 match k,hk with
 |0,_=>exact hw _ _ h
 |1,_=>exact hw _ _ h
 |2,_=>exact hw _ _ h
 |3,_=>
  have h:(bif decide (b=0) then some (0,false) else Option.bind (f185 a b) λr=>some (r,true))=some z:=h
  by_cases e:b=0
  ·rw[dcT e] at h
   have:=inS h
   subst this;exact h0
  ·rw[dcF e,cdF,f185,show nz b=true by simp[nz,e]] at h
   exact hw _ _ h
 |4,_=>
  have h:(bif decide (b=0) then some (0,false) else Option.bind (f186 a b) λr=>some (r,true))=some z:=h
  by_cases e:b=0
  ·rw[dcT e] at h
   have:=inS h
   subst this;exact h0
  ·rw[dcF e,cdF,f186,show nz b=true by simp[nz,e]] at h
   have:=inS h
   subst this;exact kO a b hb e
 |5,_=>
  have h:(bif decide (b=0) then some (0,false) else Option.bind (f187 a b) λr=>some (r,true))=some z:=h
  by_cases e:b=0
  ·rw[dcT e] at h
   have:=inS h
   subst this;exact h0
  ·rw[dcF e,cdF,f187,show nz b=true by simp[nz,e]] at h
   cases hc:(decide ((Int.tmod a b)=0))||(decide ((IntKind.i64.wrap (BitVec.ofInt IntKind.i64.bits (Int.tmod a b)^^^BitVec.ofInt IntKind.i64.bits b).toNat)≥0))
   ·rw[hc] at h;exact hw _ _ h
   ·rw[hc] at h
    have:=inS h
    subst this;exact kO a b hb e
 |6,_=>exact hbit _ _ h
 |7,_=>exact hbit _ _ h
 |8,_=>exact hbit _ _ h
 |9,_=>exact hbit _ _ h
 |10,_=>exact hbit _ _ h
 |11,_=>exact hbit _ _ h
 |12,_=>exact hw _ _ h
 |13,_=>exact hw _ _ h
 |14,_=>exact hw _ _ h
 |15,_=>exact hw _ _ h
 |16,_=>
  have h:some (f199 a b,true)=some z:=h
  have:=inS h
  subst this
  show I64 (f199 a b)
  unfold f199
  split
  ·exact nL _
  ·exact ha
 |17,_=>exact hw _ _ h
 |n+18,h=>omega
theorem fP{tR:Nat→Int}(h:∀j,I64 (tR j))(d:Nat)(v:Int)(hv:I64 v):∀j,I64 (bz tR d v j):=λj=>by
 unfold bz
 cases Nat.beq j d
 ·exact h j
 ·exact hv
def RI(R:Nat→Int):Prop:=∀j,I64 (R j)
structure KS(os:List Obj)(S:List (List Int)):Prop where
 sh:Shape os S
 c:∀r∈S,∀v∈r,I64 v
theorem KS.set{os:List Obj}{S:List (List Int)}(h:KS os S){o k:Int}{x:List Int}{v:Int}(h1:idx S o=some x)(hv:I64 v):KS os (S.set o.toNat (x.set k.toNat v)):=by
 constructor
 ·have:=h.sh.set o.toNat k.toNat v
  have e:S[o.toNat]? =some x:=bF h1
  rw[e] at this
  exact this
 ·intro r hr w hw
  rcases List.mem_or_eq_of_mem_set hr with hr|rfl
  ·exact h.c r hr w hw
  ·rcases List.mem_or_eq_of_mem_set hw with hw|rfl
   ·exact h.c x (cr h1) w hw
   ·exact hv
theorem jx:RI λ_=>0:=λ_=>by show I64 0;unfold I64;omega
section
variable(tR:Nat→Int)(tP:Int)(tX:Int)(tD:Int)(mI:List ap)(mH:List ak)(mO:List Obj)(mE:Int)(mN:List Int)(mS:List (List Int))(mU:List Int)
abbrev QR4:Rs ((Nat→Int)×Int×Int×Int)→Prop:=OKq λz=>RI z.1
abbrev QR5:Rs ((Nat→Int)×Int×Int×Int×(List Act))→Prop:=OKq λz=>RI z.1
theorem f131_R(hR:RI tR)(tA:List Act):Sat (f131 tR tP tX tD mI mH mO mE mN mS mU tA) QR4:=by
 unfold f131
 exact .cond (λ_=> .pure trivial) (λ_=> .pure hR)
theorem f59_R(hl:mH.length≤4096)(tA:List Act)(c1:Int):Sat (f59 tR tP tX tD mI mH mO mE mN mS mU tA c1) QR4:=by
 unfold f59
 refine .letk (λk=>∀t:Int,t<mH.length→Sat (k t) QR4) (λt ht=>?_) λk63 h63=>?_
 ·refine .cond (λ_=> .pure trivial) λh0=>?_
  refine .bind (.idx (by have:=of_decide_eq_false h0;omega)) λx _=>?_
  refine .letk (λk=>∀t,Sat (k t) QR4) (λt=>?_) λk hk=>?_
  ·exact .cond (λ_=> .pure trivial) (λ_=> .pure jx)
  ·exact .cond (λ_=>hk _) (λ_=>hk _)
 ·rw[al]
  exact f59_l1_sat tP mH c1 _ _ h63 (h63 _ oM) oM _ 0 0 rfl (Nat.zero_le _) oM
theorem f56_R(hl:mH.length≤4096)(n1:Int):Sat (f56 tR tP tX tD mI mH mO mE mN mS mU [] n1) QR5:=by
 unfold f56
 refine .bind (f59_R _ _ _ _ _ _ _ _ _ _ _ hl _ _) λr hr=>?_
 refine .cs (λe _=> .pure trivial) λz hz=>?_
 rw[hz] at hr
 exact .guard (bG oM sM) (.pure hr)
theorem f81_R(hR:RI tR)(hC:∀r∈mS,∀v∈r,I64 v)(hS:mS.length=mO.length)(tA:List Act)(x:ap)(hx:Rg x):Sat (f81 tR tP tX tD mI mH mO mE mN mS mU tA x) QR4:=by
 unfold f81
 refine .letk (λk=>Sat (k ()) QR4) (.pure trivial) λk28 h28=>?_
 refine .letk (λk=>∀t o i a b c d e,Pl mS o i→Sat (k t o i a b c d e) QR4) (λt o i a b c d e hp=>?_) λk37 h37=>?_
 ·obtain⟨x,h1,v,h2⟩:=hp
  refine .bind (.eq h1) λ_ e1=>?_
  rw[e1]
  refine .bind (.eq h2) λ_ e2=> .guard hx.d (.bind (f131_R _ _ _ _ _ _ _ _ _ _ _ (fP hR _ _ (by rw[e2];exact hC _ (cr h1) _ (cr h2))) _) λr hr=>?_)
  exact .cs (λ_ _=> .pure trivial) (λz hz=> .pure (by rw[hz] at hr;exact hr))
 ·refine .guard hx.a (.letk (λk=>∀o i,Sat (k o i) QR4) (λo i=>?_) λk41 h41=>?_)
  ·rw[al]
   refine .letk (λk=>Pl mS o i→Sat (k ()) QR4) (λhp=>?_) λk56 h56=>?_
   ·obtain⟨x,h1,v,h2⟩:=id hp
    have:=cU h1
    refine .bind (.idx oM) λy _=>h37 _ _ _ _ _ _ _ _ hp
   ·refine .bind (qb mS o i) λb hb=> .cond (λ_=>h28) λh0=>?_
    have hp:=hb h0
    obtain⟨x,h1,v,h2⟩:=id hp
    refine .bind (.eq h1) λ_ e1=>?_
    rw[e1]
    exact .bind (.eq h2) λ_ _=>h56 hp
  ·refine .letk (λk=>∀b,Sat (k b) QR4) (λb=>?_) λk43 h43=> .cond (λ_=>h43 _) (λ_=>h43 _)
   refine .cond (λ_=> .cond (λ_=>h28) (λ_=>h41 _ _)) λ_=>?_
   refine .letk (λk=>∀b,Sat (k b) QR4) (λb=>?_) λk49 h49=> .cond (λ_=>h49 _) (λ_=>h49 _)
   exact .cond (λ_=> .cond (λ_=>h28) (λ_=>h41 _ _)) λ_=>h41 _ _
abbrev QK:Rs ((Nat→Int)×Int×Int×Int×(List (List Int)))→Prop:=OKq λz=>RI z.1∧KS mO z.2.2.2.2
theorem f82_R(hR:RI tR)(hK:KS mO mS)(hO:∀o∈mO,o.set_.length<9223372036854775808)(tA:List Act)(x:ap)(hx:Rg x):Sat (f82 tR tP tX tD mI mH mO mE mN mS mU tA x) (QK mO):=by
 have hS:=hK.sh.len
 unfold f82
 refine .guard hx.d (.letk (λk=>∀v,I64 v→Sat (k v) (QK mO)) (λv46 h46=>?_) λk hk=>?_)
 ·refine .letk (λk=>Sat (k ()) (QK mO)) (.pure trivial) λk50 h50=>?_
  refine .letk (λk=>∀t o i a b c d e,t∈mO→Pl mS o i→Sat (k t o i a b c d e) (QK mO)) (λt o i a b c d e ht hp=>?_) λk59 h59=>?_
  ·refine .bind (f63_sat t v46 (hO t ht)) λr _=> .cond (λ_=> .pure trivial) λ_=>?_
   refine .bind (f131_R _ _ _ _ _ _ _ _ _ _ _ hR _) λr hr=> .cs (λ_ _=> .pure trivial) λz hz=>?_
   rw[hz] at hr
   obtain⟨x,h1,v,h2⟩:=hp
   refine .bind (.eq h1) λ_ e1=>?_
   rw[e1]
   exact .bind (.eq h2) λ_ e2=> .pure ⟨hr,hK.set h1 h46⟩
  ·refine .guard hx.a (.letk (λk=>∀o i,Sat (k o i) (QK mO)) (λo i=>?_) λk41 h41=>?_)
   ·rw[al]
    refine .letk (λk=>Pl mS o i→Sat (k ()) (QK mO)) (λhp=>?_) λk56 h56=>?_
    ·obtain⟨x,h1,v,h2⟩:=id hp
     have:=cU h1
     refine .bind (.idx oM) λy hy=>h59 _ _ _ _ _ _ _ _ (cr hy) hp
    ·refine .bind (qb mS o i) λb hb=> .cond (λ_=>h50) λh0=>?_
     have hp:=hb h0
     obtain⟨x,h1,v,h2⟩:=id hp
     refine .bind (.eq h1) λ_ e1=>?_
     rw[e1]
     exact .bind (.eq h2) λ_ _=>h56 hp
   ·refine .letk (λk=>∀b,Sat (k b) (QK mO)) (λb=>?_) λk43 h43=> .cond (λ_=>h43 _) (λ_=>h43 _)
    refine .cond (λ_=> .cond (λ_=>h50) (λ_=>h41 _ _)) λ_=>?_
    refine .letk (λk=>∀b,Sat (k b) (QK mO)) (λb=>?_) λk49 h49=> .cond (λ_=>h49 _) (λ_=>h49 _)
    exact .cond (λ_=> .cond (λ_=>h50) (λ_=>h41 _ _)) λ_=>h41 _ _
 ·exact .cond (λ_=> .guard hx.a (hk _ (hR _))) (λ_=>hk _ (hR _))
theorem f83_R(hR:RI tR)(tA:List Act)(x:ap)(hx:Rg x):Sat (f83 tR tP tX tD mI mH mO mE mN mS mU tA x) QR4:=by
 unfold f83
 refine .guard hx.a (.cond (λ_=> .pure hR) λ_=>?_)
 refine .letk (λk=>∀b,Sat (k b) QR4) (λb=>?_) λk hk=> .cond (λ_=>hk _) (λ_=> .cond (λ_=>hk _) (λ_=>hk _))
 exact .cond (λ_=> .pure hR) λ_=> .bind (f131_R _ _ _ _ _ _ _ _ _ _ _ hR _) λr hr=> .cs (λ_ _=> .pure trivial) (λz hz=> .pure (by rw[hz] at hr;exact hr))
theorem f84_R(hR:RI tR)(hl:mH.length≤4096)(x:ap)(hx:Rg x):Sat (f84 tR tP tX tD mI mH mO mE mN mS mU [] x) QR5:=by
 unfold f84
 refine .guard hx.a (.cond (λ_=>?_) λ_=>?_)
 ·exact .bind (f56_R _ _ _ _ _ _ _ _ _ _ _ hl _) λr hr=> .cs (λ_ _=> .pure trivial) (λz hz=> .pure (by rw[hz] at hr;exact hr))
 ·exact .bind (f131_R _ _ _ _ _ _ _ _ _ _ _ hR _) λr hr=> .cs (λ_ _=> .pure trivial) (λz hz=> .pure (by rw[hz] at hr;exact hr))
theorem f85_R(hR:RI tR)(hl:mH.length≤4096)(x:ap)(hx:Rg x):Sat (f85 tR tP tX tD mI mH mO mE mN mS mU [] x) QR5:=by
 unfold f85
 refine .guard hx.a (.cond (λ_=>?_) λ_=> .cond (λ_=>?_) λ_=> .cond (λ_=> .pure trivial) λ_=> .cond (λ_=>?_) λ_=>?_)
 ·exact .bind (f56_R _ _ _ _ _ _ _ _ _ _ _ hl _) λr hr=> .cs (λ_ _=> .pure trivial) (λz hz=> .pure (by rw[hz] at hr;exact hr))
 ·exact .bind (f131_R _ _ _ _ _ _ _ _ _ _ _ hR _) λr hr=> .cs (λ_ _=> .pure trivial) (λz hz=> .pure (by rw[hz] at hr;exact hr))
 ·exact .bind (f59_R _ _ _ _ _ _ _ _ _ _ _ hl _ _) λr hr=> .cs (λ_ _=> .pure trivial) (λz hz=> .pure (by rw[hz] at hr;exact hr))
 ·exact .bind (f56_R _ _ _ _ _ _ _ _ _ _ _ hl _) λr hr=> .cs (λ_ _=> .pure trivial) (λz hz=> .pure (by rw[hz] at hr;exact hr))
abbrev QR7:Rs ((Nat→Int)×Int×Int×Int×(List Int)×(List Int)×(List Act))→Prop:=OKq λz=>RI z.1
theorem f86_R(hR:RI tR)(hN:∀v∈mN,I64 v)(hl:mH.length≤4096)(x:ap)(hx:Rg x)(hU:mU.length≤1000000):Sat (f86 tR tP tX tD mI mH mO mE mN mS mU [] x) QR7:=by
 unfold f86
 refine .cond (λh37=>?_) λ_=> .cond (λ_=>?_) λ_=> .cond (λh0=>?_) λh0=>?_
 ·refine .bind (f131_R _ _ _ _ _ _ _ _ _ _ _ hR _) λr hr=> .cs (λ_ _=> .pure trivial) (λz hz=>?_)
  rw[hz] at hr
  exact .letk (λk=>∀c,Sat (k c) QR7) (λc=> .guard (bG oM sM) (.pure hr)) λk hk=> .cond (λ_=>hk _) (λ_=>hk _)
 ·refine .guard hx.a (.bind (f131_R _ _ _ _ _ _ _ _ _ _ _ hR _) λr hr=> .cs (λ_ _=> .pure trivial) (λz hz=>?_))
  rw[hz] at hr
  exact .guard (bG oM (by simp;omega)) (.guard (bG oM sM) (.pure hr))
 ·exact .bind (f56_R _ _ _ _ _ _ _ _ _ _ _ hl _) λr hr=> .cs (λ_ _=> .pure trivial) (λz hz=> .pure (by rw[hz] at hr;exact hr))
 ·have h0:=of_decide_eq_false h0
  refine .bind (f131_R _ _ _ _ _ _ _ _ _ _ _ hR _) λr hr=> .cs (λ_ _=> .pure trivial) (λz hz=>?_)
  rw[hz] at hr
  obtain⟨v,N,rfl⟩:∃v N,mN=v::N:=by
   cases mN with
   |nil=>exact absurd rfl h0
   |cons v N=>exact⟨v,N,rfl⟩
  have e:idx (v::N) 0=some v:=rfl
  refine .bind (.eq e) λw hw=> .guard hx.d (.bind (.eq e) λy hy=> .guard (bG oM sM) (.guard (by simp[dw];omega) (.pure ?_)))
  exact fP hr _ _ (by rw[hw];exact hN v List.mem_cons_self)
theorem f87_R(hR:RI tR)(hX:I64 tX)(tA:List Act)(x:ap)(hn:I64 x.n)(hx:Rg x):Sat (f87 tR tP tX tD mI mH mO mE mN mS mU tA x) QR4:=by
 unfold f87
 refine .letk (λk=>∀R d,RI R→Sat (k R d) QR4) (λR d hR=>?_) λk hk=>?_
 ·refine .cond (λ_=> .pure trivial) λ_=> .bind (f131_R _ _ _ _ _ _ _ _ _ _ _ hR _) λr hr=> .cs (λ_ _=> .pure trivial) (λz hz=> .pure (by rw[hz] at hr;exact hr))
 ·exact .cond (λ_=> .guard hx.d (hk _ _ (fP hR _ _ hn))) λ_=> .cond (λ_=> .guard hx.a (.guard hx.d (hk _ _ (fP hR _ _ (hR _))))) λ_=> .cond (λ_=> .guard hx.d (hk _ _ (fP hR _ _ hX))) λ_=> .cond (λ_=>hk _ _ hR) λ_=> .cond (λ_=>hk _ _ hR) (λ_=>hk _ _ hR)
theorem f88_R(hR:RI tR)(tA:List Act)(x:ap)(hx:Rg x)(ho:9≤x.op∧x.op≤26):Sat (f88 tR tP tX tD mI mH mO mE mN mS mU tA x) QR4:=by
 obtain⟨k,hk⟩:∃k:Nat,x.op=(k:Int)+9:=⟨(x.op - 9).toNat,oM⟩
 have hk18:k<18:=oM
 have hb:=hx.b oM oM
 have e1:IntKind.u8.wrap (1+IntKind.u8.wrap (x.op - 9))=(k:Int)+1:=by
  rw[hk]
  have e:∀v:Int,IntKind.u8.wrap v=v%256:=λv=>by simp[IntKind.wrap,IntKind.signed,IntKind.bits]
  rw[e,e];omega
 unfold f88
 rw[e1]
 refine .guard hx.a (.guard hb (.bind (P:=λz=>I64 z.1) ?_ λz hz=> .cond (λ_=> .pure trivial) λ_=> .guard hx.d ?_))
 ·obtain⟨z,h1,_⟩:=f132_sat ((k:Int)+1) (tR (Int.toNat x.a)) (tR (Int.toNat x.b))
  refine⟨z,h1,ro k hk18 _ _ (hR (Int.toNat x.a)) (hR (Int.toNat x.b)) z ?_⟩
  rw[←jv k hk18 _ _ (hR (Int.toNat x.a)) (hR (Int.toNat x.b))];exact h1
 ·exact .bind (f131_R _ _ _ _ _ _ _ _ _ _ _ (fP hR _ _ hz) _) λr hr=> .cs (λ_ _=> .pure trivial) (λz hz=> .pure (by rw[hz] at hr;exact hr))
abbrev QE8:Rs Z8→Prop:=OKq λz=>RI z.1∧KS mO z.2.2.2.2.2.1
theorem ud:∀k:Nat,k<41→mth (((k+1:Nat):Int))≠88∨(9≤k+1∧k+1≤26):=by decide+kernel
theorem fm_R(hv:MV mI mH mO mS)(hR:RI tR)(hX:I64 tX)(hK:KS mO mS)(hN:∀v∈mN,I64 v)(hU:mU.length≤1000000)(x:ap)(hx:Rg x)(hop:1≤x.op∧x.op≤41)(hn:I64 x.n):
  Sat (fm (mth x.op) tR tP tX tD mI mH mO mE mN mS mU [] x) (QE8 mO):=by
 have hr:=qk x.op
 have h88:mth x.op=88→9≤x.op∧x.op≤26:=λh=>by
  obtain⟨k,hk⟩:∃k:Nat,x.op=((k+1:Nat):Int):=⟨(x.op - 1).toNat,oM⟩
  rw[hk] at h
  have:=ud k oM
  omega
 generalize mth x.op=n at hr h88
 unfold fm
 refine .cond (λ_=>?_) λe1=> .cond (λ_=>?_) λe2=> .cond (λ_=>?_) λe3=> .cond (λ_=>?_) λe4=> .cond (λ_=>?_) λe5=> .cond (λ_=>?_) λe6=> .cond (λ_=>?_) λe7=> .cond (λe=>?_) λe8=>?_
 ·exact .bind (f81_R _ _ _ _ _ _ _ _ _ _ _ hR hK.c hv.s _ _ hx) λr hr=> .pure (by cases r<;>first|trivial|exact⟨hr,hK⟩)
 ·exact .bind (f82_R _ _ _ _ _ _ _ _ _ _ _ hR hK hv.o _ _ hx) λr hr=> .pure (by cases r<;>first|trivial|exact hr)
 ·exact .bind (f83_R _ _ _ _ _ _ _ _ _ _ _ hR _ _ hx) λr hr=> .pure (by cases r<;>first|trivial|exact⟨hr,hK⟩)
 ·exact .bind (f84_R _ _ _ _ _ _ _ _ _ _ _ hR hv.h _ hx) λr hr=> .pure (by cases r<;>first|trivial|exact⟨hr,hK⟩)
 ·exact .bind (f85_R _ _ _ _ _ _ _ _ _ _ _ hR hv.h _ hx) λr hr=> .pure (by cases r<;>first|trivial|exact⟨hr,hK⟩)
 ·exact .bind (f86_R _ _ _ _ _ _ _ _ _ _ _ hR hN hv.h _ hx hU) λr hr=> .pure (by cases r<;>first|trivial|exact⟨hr,hK⟩)
 ·exact .bind (f87_R _ _ _ _ _ _ _ _ _ _ _ hR hX _ _ hn hx) λr hr=> .pure (by cases r<;>first|trivial|exact⟨hr,hK⟩)
 ·exact .bind (f88_R _ _ _ _ _ _ _ _ _ _ _ hR _ _ hx (h88 (by simpa using e))) λr hr=> .pure (by cases r<;>first|trivial|exact⟨hr,hK⟩)
 ·exfalso
  have:=Nat.ne_of_beq_eq_false e1
  have:=Nat.ne_of_beq_eq_false e2
  have:=Nat.ne_of_beq_eq_false e3
  have:=Nat.ne_of_beq_eq_false e4
  have:=Nat.ne_of_beq_eq_false e5
  have:=Nat.ne_of_beq_eq_false e6
  have:=Nat.ne_of_beq_eq_false e7
  have:=Nat.ne_of_beq_eq_false e8
  omega
theorem f45_R(hv:MV mI mH mO mS)(hn:∀x∈mI,I64 x.n)(hR:RI tR)(hX:I64 tX)(hK:KS mO mS)(hN:∀v∈mN,I64 v)(hU:mU.length≤1000000)(hp:0≤tP∧tP<mI.length):Sat (f45 tR tP tX tD mI mH mO mE mN mS mU []) (QE8 mO):=by
 unfold f45
 refine .bind (.idx hp) λx hx=> .cond (λ_=> .pure trivial) λh36=>?_
 have hm:=hv.i x (cr hx)
 have ho:=(f36_iff hm.2).1 (by simpa using h36)
 have hr:=nm hm.1 ho
 rw[f46_eq,bnS]
 refine .bind (fm_R _ _ _ _ _ _ _ _ _ _ _ hv hR hX hK hN hU _ hr ho (hn x (cr hx))) λr hr=> .cs (λ_ _=> .pure trivial) λz hz=> .pure ?_
 rw[hz] at hr
 exact hr
theorem f11_R(hv:MV mI mH mO mS)(hE:mE≤64)(hn:∀x∈mI,I64 x.n)(hK:KS mO mS)(hN:∀v∈mN,I64 v)(hU:mU.length≤1000000)(r:aI)(hR:RI r.r):Sat (f11 mI mH mO mE mN mS mU r) (λz=>RI z.1.r∧KS mO z.2.2.2.2.1):=by
 unfold f11
 refine .bind (P:=λz=>RI z.1.r∧KS mO z.2.2.2.2.1) ?_ λr hr=> .pure hr
 unfold f44_45
 refine .bind (.eq rfl) λb _=> .cond (λ_=> .pure ⟨jx,hK⟩) λ_=> .cond (λ_=> .pure ⟨jx,hK⟩) λh=>?_
 simp only[Bool.or_eq_false_iff,decide_eq_false_iff_not] at h
 refine .bind (f45_R _ _ _ _ _ _ _ _ _ _ _ hv hn hR (by unfold I64;omega) hK hN hU oM) λr hr=> .cs (λ_ _=> .pure ⟨jx,hK⟩) λz hz=> .pure ?_
 rw[hz] at hr
 exact⟨hr.1,hr.2⟩
end
theorem kQ{os:List Obj}{S:List (List Int)}(h:Shape os S)(ho:∀o∈os,o.size≤16384):∀r∈S,r.length≤16384:=λr hr=>by
 have h1:(r.length:Int)∈S.map (λr=>(r.length:Int)):=List.mem_map_of_mem hr
 have h2:S.map (λr=>(r.length:Int))=os.map (·.size):=h
 rw[h2] at h1
 obtain⟨o,h3,h4⟩:=List.mem_map.1 h1
 have:=ho o h3
 omega
theorem nW{os:List Obj}(hs:os.length≤4096):∀(L:List Int)(last:Int),fx os last L=true→∀n∈L,0≤n∧n<9223372036854775807
 |[],_,_,n,h=>by cases h
 |x::r,last,h,n,hn=>by
  rw[fx,Bool.and_eq_true,Bool.and_eq_true] at h
  rcases List.mem_cons.1 hn with rfl|hn
  ·have ha:=h.1.2
   unfold aim at ha
   cases hi:idx os n with
   |none=>rw[hi] at ha;cases ha
   |some y=>have:=cU hi;omega
  ·exact nW hs r x h.2 n hn
theorem sB{t:ai}(hv:VT t):∀y∈t.objs,y.set_.length<9223372036854775808∧∀n∈y.set_,0≤n∧n<9223372036854775807:=λy hy=>by
 refine⟨hv.sz.sets y hy,λn hn=>?_⟩
 have h:=hv.obj y hy
 unfold dR at h
 rw[Bool.and_eq_true] at h
 cases hp:y.ptr
 ·have h2:=h.2
  rw[hp,Bool.not_false,cdT,decide_eq_true_eq] at h2
  have:y.set_=[]:=List.length_eq_zero_iff.1 oM
  rw[this] at hn
  cases hn
 ·have h2:=h.2
  rw[hp,Bool.not_true,cdF,Bool.and_eq_true] at h2
  exact nW hv.objs _ _ h2.1 n hn
theorem ob{t:ai}(hv:VT t):∀y∈t.objs,y.size≤16384:=λy hy=>by
 have h:=hv.obj y hy
 unfold dR at h
 simp only[Bool.and_eq_true,Bool.not_eq_true',Bool.or_eq_false_iff,decide_eq_false_iff_not] at h
 omega
structure SzN(t:ai):Prop where
 n:∀x∈t.insns,I64 x.n
 lo:∀o∈t.objs,I64 o.lo
 iv:∀x∈t.inits,I64 x.v
theorem vr{S:List (List Int)}{x:cF}(hx:I64 x.v)(h:∀r∈S,∀v∈r,I64 v):∀r∈kD S x,∀v∈r,I64 v:=by
 unfold kD
 intro r hr v hv
 rcases List.mem_or_eq_of_mem_set hr with hr|rfl
 ·exact h r hr v hv
 ·rcases List.mem_or_eq_of_mem_set hv with hv|rfl
  ·cases he:S[x.o.toNat]? with
   |none=>rw[he] at hv;cases hv
   |some y=>rw[he] at hv;exact h y (List.mem_of_getElem? he) v hv
  ·exact hx
theorem sR:∀(L:List cF)(S:List (List Int)),(∀x∈L,I64 x.v)→(∀r∈S,∀v∈r,I64 v)→∀r∈L.foldl kD S,∀v∈r,I64 v
 |[],S,_,h=>h
 |x::L,S,hL,h=>sR L (kD S x) (λy hy=>hL y (List.mem_cons_of_mem _ hy)) (vr (hL x List.mem_cons_self) h)
theorem sg{t:ai}(hv:VT t)(hn:SzN t):KS t.objs (store t):=by
 refine⟨kg hv,sR _ _ hn.iv λr hr v hv'=>?_⟩
 obtain⟨o,ho,rfl⟩:=List.mem_map.1 hr
 unfold bR at hv'
 have:=List.eq_of_mem_replicate hv'
 subst this
 unfold qZ
 cases fits o 0
 ·exact hn.lo o ho
 ·show I64 0;unfold I64;omega
theorem f5_l1_eq(t:ai)(hv:VT t)(hn:∀x∈t.insns,I64 x.n)(steps:Int)(hst:steps≤300∧-9223372036854775808≤steps)(r:Int×(List ap)×(List ak)×(List Obj)×Int×(List Int)×(List (List Int))×(List Int))(h1:r.2.1=t.insns)(h2:r.2.2.1=t.handlers)(h3:r.2.2.2.1=t.objs)(h4:r.2.2.2.2.1=t.excs)(k)
  (hk:∀S U N R p x d,KS t.objs S→U.length≤1000→N.length≤200→k S U N t.insns t.handlers t.loops t.selects t.lists t.objs t.inits t.excs t.tasks t.prots t.checks S N U R p x d R p x d=some true):∀(n i:Nat)(z:Int)(S:List (List Int))(U N:List Int)(R:Nat→Int)(p x d:Int),z=(i:Int)→i≤300→300<n+i→KS t.objs S→RI R→(∀v∈N,I64 v)→N.length≤200→U.length≤i→
  f5_l1 steps r k n z S U N t.insns t.handlers t.loops t.selects t.lists t.objs t.inits t.excs t.tasks t.prots t.checks S N U R p x d R p x d=some true
 |0,i,z,_,_,_,_,_,_,_,_,_,h,_,_,_,_,_=>oM
 |n+1,i,z,S,U,N,R,p,x,d,hz,hi,h,hK,hR,hN,hNl,hU=>by
  subst hz
  rw[f5_l1]
  rw[w64 (x:=steps) oM oM]
  by_cases hh:(i:Int)<steps
  ·have hrow:=kQ hK.sh (ob hv)
   have hMV:MV t.insns t.handlers t.objs S:=⟨hv.hdls,hK.sh.len,hv.sz.sets,(mv_of hv).i⟩
   obtain⟨R',A,E,N',S',U',e1,e2⟩:=tT t hv R p x d hR N S U hn hK.sh (λr hr=>by have:=hrow r hr;omega) oM (sB hv)
   obtain⟨z1,q1,hx⟩:=f11_sat t.insns t.handlers t.objs t.excs N S U hMV oM (aI.mk R p x d)
   obtain⟨z2,q2,hy⟩:=f11_R t.insns t.handlers t.objs t.excs N S U hMV (by have:=hv.excs;omega) hn hK hN oM (aI.mk R p x d) hR
   rw[e1] at q1 q2
   obtain rfl:=inS q1
   obtain rfl:=inS q2
   obtain⟨i1,i2,i3⟩:=hx.io
   dsimp only at i1 i2 i3 hy
   have hp:=vw A
   have hN':∀v∈N',I64 v:=λv hv'=>hN v (by rw[←i1];exact List.mem_append_right _ hv')
   have hl:(tk A++N').length=N.length:=by rw[i1]
   rw[List.length_append] at hl
   have hU':U'.length≤i+1:=by rw[i2,List.length_append];omega
   rw[dcT hh,cdT,h1,h2,h3,h4,e1,bnS]
   have e2':f17 (Mem.mk (ai.mk t.insns t.handlers t.loops t.selects t.lists t.objs t.inits t.excs t.tasks t.prots t.checks) S N U) (aI.mk R p x d)=some (Mem.mk t S' N' U',R',A,E):=e2
   rw[e2',bnS]
   simp only[decide_true,Bool.and_true,Bool.not_true,cdF]
   rw[f18_same A oM,bnS,bnS,Bool.not_true,Bool.or_self,cdF]
   cases hE:decide (E=0)
   ·rw[Bool.not_false,cdT]
    exact hk _ _ _ _ _ _ _ hy.2 oM oM
   ·rw[Bool.not_true,cdF,w64 (x:=(i:Int)+1) oM oM]
    exact f5_l1_eq t hv hn steps hst r h1 h2 h3 h4 k hk n (i+1) _ S' U' N' _ _ _ _ (by push_cast;rfl) oM oM hy.2 hy.1 hN' oM hU'
  ·rw[dcF hh,cdF]
   exact hk _ _ _ _ _ _ _ hK oM hNl
theorem sJ(t:ai)(in1:List Int)(at2 steps:Int)(hs:Sz t)(ha:SzA t)(hn:SzN t)(hin:∀v∈in1,I64 v)(hst: -9223372036854775808≤steps):f5 t in1 at2 steps=some true:=by
 obtain⟨b,hb,_⟩:=f12_sat t
 unfold f5
 rw[hb,bnS]
 cases hc:(b||(decide ((List.length in1:Int)>200)))||(decide (steps>300))
 ·rw[cdF,f37_eq t hs,bnS]
  simp only[Bool.or_eq_false_iff,decide_eq_false_iff_not] at hc
  cases hm:MayB t
  ·rw[cdF]
   unfold f10b
   rw[f37_eq t hs,hm,f16_bad t in1 hs ha hm,bnS,Bool.not_false,cdT,bnS,bnS,
    show(!decide ((((),2):Unit×Int).2=(Mem.mk (ai.mk [] [] [] [] [] [] [] 0 [] [] []) [] [] [],(2:Int)).2))=false from rfl,cdF,
    show(!decide ((Mem.mk (ai.mk [] [] [] [] [] [] [] 0 [] [] []) [] [] [],(2:Int)).2=0))=true from rfl,cdT,f9_ok,bnS]
  ·have hv:=kG hs hm
   rw[cdT,f10_eq t in1 hs hm oM,bnS,f16_eq t in1 hs ha hm,bnS]
   rw[show(!decide (((0:Int),t.insns,t.handlers,t.objs,t.excs,in1,store t,([]:List Int)).1=(Mem.mk t (store t) in1 [],(0:Int)).2))=false from rfl,cdF,cdF,al]
   refine f5_l1_eq t hv hn.n steps ⟨oM,hst⟩ _ rfl rfl rfl rfl _ (λS U N R p x d hK hU hN=>?_) _ 0 0 _ _ _ _ _ _ _ rfl oM oM (sg hv hn) jx hin (by show in1.length≤200;omega) sM
   have hrow:=kQ hK.sh (ob hv)
   have hlen:=hK.sh.len
   have hob:=hv.objs
   have e:=f19_same t.insns t.handlers t.objs t.excs (Mem.mk t S N U) hv.n.1 (by show S.length<1000000;omega) (λr hr=>by have:=hrow r hr;omega) (by show N.length≤1000000000000;omega) (by show U.length≤1000000000000;omega)
   have e':f19 t.insns t.handlers t.objs t.excs N S U (Mem.mk (ai.mk t.insns t.handlers t.loops t.selects t.lists t.objs t.inits t.excs t.tasks t.prots t.checks) S N U)=some true:=e
   dsimp only
   rw[e',bnS,cdT,f9_ok]
   rfl
 ·rw[cdT,f9_ok];rfl
section
variable(t:ai)(hv:VT t)(N:List Int)(S:List (List Int))(U:List Int)
include hv
end
end Go.Proofs.YtkbahggepncliaaGreatDoor
