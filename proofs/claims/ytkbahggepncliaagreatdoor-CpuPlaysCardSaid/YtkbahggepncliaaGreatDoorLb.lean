/- Part of the proof. -/
import Derived.Test.YtkbahggepncliaaGreatDoorO
import Derived.Test.YtkbahggepncliaaGreatDoorLa
set_option linter.unusedVariables false
set_option linter.unusedSimpArgs false
set_option linter.unusedSectionVars false
set_option linter.unnecessarySimpa false
set_option maxRecDepth 10000
namespace Go.Proofs.YtkbahggepncliaaGreatDoor
open Go Go.Sk
theorem wu(t:aj)(hv:VT t)(tR:Nat→Int)(tP tX tD:Int)(hR:∀j,I64 (tR j))(N:List Int)(S:List (List Int))(U:List Int)(x:aB)
  (h1:f31 t (aq.mk tR tP tX tD)=true)(h2:idx t.insns tP=some x)(h3:f50 x.op=true)(hn:I64 x.n)(hd:0≤tD∧tD≤1000000)(hS:Shape t.objs S)(hs2:∀r∈S,r.length≤1000000000000)(hU:U.length≤1000000)
  (hO:∀y∈t.objs,y.set_.length<9223372036854775808∧∀n∈y.set_,0≤n∧n<9223372036854775807):
  ∃rz s,fm (mth x.op) tR tP tX tD t.insns t.handlers t.objs t.excs N S U [] x=some rz∧f17 (Mem.mk t S N U) (aq.mk tR tP tX tD)=ny (Mem.mk t S N U) s∧Rel t rz s:=by
 have hop:1≤x.op∧x.op≤41:=by
  unfold f50 at h3
  simp only[Bool.and_eq_true,decide_eq_true_eq] at h3
  omega
 have hf:=hv.fits x (cy h2)
 have hm:eP x=true:=by
  unfold gJ at hf
  rw[Bool.and_eq_true] at hf
  exact hf.1
 have hx:=n6 hm hop
 have hl:=hv.n.2
 have hH:=hv.hdls
 have hp:0≤tP∧tP<(t.insns.length:Int):=cR h2
 have hSl:S.length=t.objs.length:=hS.len
 have hobj:=hv.objs
 have hE:=hv.excs
 rcases(show(x.op=3∨x.op=5∨x.op=7)∨(x.op=4∨x.op=6∨x.op=8)∨(x.op=29∨x.op=30∨x.op=31∨x.op=32)∨(x.op=27∨x.op=28)∨(x.op=33∨x.op=34∨x.op=35)∨(x.op=37∨x.op=39)∨x.op=38∨(x.op=1∨x.op=2∨x.op=36∨x.op=40∨x.op=41)∨(9≤x.op∧x.op≤26) by omega) with h|h|h|h|h|h|h|h|h
 ·obtain⟨r,s,a,b,c⟩:=s81 t hl tR tP tX tD hp t.handlers t.excs N S U x hx hSl (qE t hv tR x S hS hf oM) h
  refine⟨_,s,?_,f17_51 (Mem.mk t S N U) (aq.mk tR tP tX tD) x h1 h2 h3 s b oM,c⟩
  have e:mth x.op=81:=by rcases h with e|e|e<;>rw[e]<;>rfl
  rw[e]
  show Option.bind (f81 tR tP tX tD t.insns t.handlers t.objs t.excs N S U [] x) _=_
  rw[a];rfl
 ·obtain⟨r,s,a,b,c⟩:=s82 t hl tR tP tX tD hp t.handlers t.excs N S U hR x hx hO hSl oM hs2 (qE t hv tR x S hS hf oM) h
  refine⟨_,s,?_,f17_51 (Mem.mk t S N U) (aq.mk tR tP tX tD) x h1 h2 h3 s b oM,c⟩
  have e:mth x.op=82:=by rcases h with e|e|e<;>rw[e]<;>rfl
  rw[e]
  show Option.bind (f82 tR tP tX tD t.insns t.handlers t.objs t.excs N S U [] x) _=_
  rw[a];rfl
 ·obtain⟨r,s,a,b,c⟩:=s83 t hl tR tP tX tD hp hR t.handlers t.objs t.excs N S U x hx hm hn h
  refine⟨_,s,?_,f17_52 (Mem.mk t S N U) (aq.mk tR tP tX tD) x h1 h2 h3 s b h,c⟩
  have e:mth x.op=83:=by rcases h with e|e|e|e<;>rw[e]<;>rfl
  rw[e]
  show Option.bind (f83 tR tP tX tD t.insns t.handlers t.objs t.excs N S U [] x) _=_
  rw[a];rfl
 ·obtain⟨r,s,a,b,c⟩:=s84 t hl hH tR tP tX tD hp t.objs N S U x hx t.excs h
  refine⟨_,s,?_,f17_53 (Mem.mk t S N U) (aq.mk tR tP tX tD) x h1 h2 h3 s b oM,c⟩
  have e:mth x.op=84:=by rcases h with e|e<;>rw[e]<;>rfl
  rw[e]
  show Option.bind (f84 tR tP tX tD t.insns t.handlers t.objs t.excs N S U [] x) _=_
  rw[a];rfl
 ·obtain⟨r,s,a,b,c⟩:=s85 t hl hH tR tP tX tD hp t.objs N S U x hx oM hm h
  refine⟨_,s,?_,f17_53 (Mem.mk t S N U) (aq.mk tR tP tX tD) x h1 h2 h3 s b oM,c⟩
  have e:mth x.op=85:=by rcases h with e|e|e<;>rw[e]<;>rfl
  rw[e]
  show Option.bind (f85 tR tP tX tD t.insns t.handlers t.objs t.excs N S U [] x) _=_
  rw[a];rfl
 ·obtain⟨r,s,a,b,c⟩:=s86a t hl tR tP tX tD hp t.objs t.excs N S U x hx hU h
  refine⟨_,s,?_,f17_54 (Mem.mk t S N U) (aq.mk tR tP tX tD) x h1 h2 h3 s b oM,c⟩
  have e:mth x.op=86:=by rcases h with e|e<;>rw[e]<;>rfl
  rw[e]
  show Option.bind (f86 tR tP tX tD t.insns t.handlers t.objs t.excs N S U [] x) _=_
  rw[a];rfl
 ·obtain⟨r,s,a,b,c⟩:=s86b t hl hH tR tP tX tD hp t.objs t.excs N S U x hx h
  refine⟨_,s,?_,f17_53 (Mem.mk t S N U) (aq.mk tR tP tX tD) x h1 h2 h3 s b oM,c⟩
  have e:mth x.op=86:=by rw[h];rfl
  rw[e]
  show Option.bind (f86 tR tP tX tD t.insns t.handlers t.objs t.excs N S U [] x) _=_
  rw[a];rfl
 ·obtain⟨r,s,a,b,c⟩:=s87 t hl tR tP tX tD hp hd t.handlers t.objs t.excs N S U x hx h
  refine⟨_,s,?_,f17_54 (Mem.mk t S N U) (aq.mk tR tP tX tD) x h1 h2 h3 s b oM,c⟩
  have e:mth x.op=87:=by rcases h with e|e|e|e|e<;>rw[e]<;>rfl
  rw[e]
  show Option.bind (f87 tR tP tX tD t.insns t.handlers t.objs t.excs N S U [] x) _=_
  rw[a];rfl
 ·obtain⟨r,s,a,b,c⟩:=s88 t hl tR tP tX tD hp hR t.handlers t.objs t.excs N S U x hx h
  refine⟨_,s,?_,f17_54 (Mem.mk t S N U) (aq.mk tR tP tX tD) x h1 h2 h3 s b oM,c⟩
  have e:mth x.op=88:=by
   obtain⟨k,hk⟩:∃k:Nat,x.op=(k:Int)+9:=⟨(x.op - 9).toNat,oM⟩
   have key:∀k,k<18→mth ((k:Nat)+9:Int)=88:=by decide+kernel
   rw[hk];exact key k oM
  rw[e]
  show Option.bind (f88 tR tP tX tD t.insns t.handlers t.objs t.excs N S U [] x) _=_
  rw[a];rfl
theorem um(t:aj)(hv:VT t)(tR:Nat→Int)(tP tX tD:Int)(hR:∀j,I64 (tR j))(N:List Int)(S:List (List Int))(U:List Int)
  (hn:∀x∈t.insns,I64 x.n)(hS:Shape t.objs S)(hs2:∀r∈S,r.length≤1000000000000)(hU:U.length≤1000000)
  (hO:∀y∈t.objs,y.set_.length<9223372036854775808∧∀n∈y.set_,0≤n∧n<9223372036854775807):
  ∃R' A E N' S' U',f11 t.insns t.handlers t.objs t.excs N S U (aq.mk tR tP tX tD)=some (R',A,E,N',S',U')∧f17 (Mem.mk t S N U) (aq.mk tR tP tX tD)=some (Mem.mk t S' N' U',R',A,E):=by
 have hlen:=hv.n
 have h47:f47 t.insns t.handlers t.objs t.excs N S U=some false:=by
  unfold f47
  rw[dcF (by omega:¬(t.insns.length:Int)=0)]
 have hck:(((((((decide (tP<0))||(decide (tP≥(List.length t.insns:Int))))||(decide (tX<(-2))))||(decide (tX>t.excs)))||(decide (tD<0)))||(decide (tD>1000000)))||(!true))= !(f31 t (aq.mk tR tP tX tD)):=by
  have e:f31 t (aq.mk tR tP tX tD)=(((((decide (tP≥0)&&decide (tP<(List.length t.insns:Int)))&&(decide (tX≥(-2))))&&(decide (tX≤t.excs)))&&(decide (tD≥0)))&&(decide (tD≤1000000))):=rfl
  rw[e,Bool.eq_iff_iff]
  simp only[Bool.or_eq_true,Bool.not_eq_true',Bool.and_eq_false_iff,decide_eq_true_eq,decide_eq_false_iff_not,Bool.not_true,Bool.false_eq_true,or_false]
  omega
 unfold f11 f44_45
 rw[h47,bnS,cdF]
 dsimp only
 rw[hck]
 cases h31:f31 t (aq.mk tR tP tX tD)
 ·refine⟨_,_,_,_,_,_,rfl,?_⟩
  unfold f17
  dsimp only
  rw[h31]
  rfl
 ·have hb:0≤tP∧tP<(t.insns.length:Int)∧0≤tD∧tD≤1000000:=by
   have e:f31 t (aq.mk tR tP tX tD)=(((((decide (tP≥0)&&decide (tP<(List.length t.insns:Int)))&&(decide (tX≥(-2))))&&(decide (tX≤t.excs)))&&(decide (tD≥0)))&&(decide (tD≤1000000))):=rfl
   rw[e] at h31
   simp only[Bool.and_eq_true,decide_eq_true_eq] at h31
   omega
  obtain⟨x,hx,hxm⟩:=aR (L:=t.insns) (i:=tP) ⟨hb.1,hb.2.1⟩
  have ho:=hv.sz.ops x hxm
  have h36:f36 x.op=f50 x.op:=by
   unfold f50
   by_cases h:1≤x.op∧x.op≤41
   ·rw[(f36_iff ho.1).2 h,dcT (show x.op≥1 from h.1),dcT h.2];rfl
   ·have:f36 x.op=false:=by
     cases hf:f36 x.op
     ·rfl
     ·exact absurd ((f36_iff ho.1).1 hf) h
    rw[this,eq_comm,Bool.and_eq_false_iff]
    simp only[decide_eq_false_iff_not]
    omega
  unfold f45
  rw[Bool.not_true,cdF,hx,bnS,h36]
  cases h50:f50 x.op
  ·refine⟨_,_,_,_,_,_,rfl,?_⟩
   unfold f17
   dsimp only
   rw[h31,hx,Bool.not_true,cdF,bnS,h50]
   rfl
  ·obtain⟨rz,s,a,b,c⟩:=wu t hv tR tP tX tD hR N S U x h31 hx h50 (hn x hxm) ⟨hb.2.2.1,hb.2.2.2⟩ hS hs2 hU hO
   rw[Bool.not_true,cdF,f46_eq,bnS,a,bnS,b]
   cases rz with
   |bad e=>
    obtain⟨c1,c2⟩:=c
    refine⟨_,_,_,_,_,_,rfl,?_⟩
    unfold ny
    rw[c2,dcF c1]
    rfl
   |ok z=>
    have c:s=av.mk (Mem.mk t z.2.2.2.2.2.1 z.2.2.2.2.1 z.2.2.2.2.2.2.1) (aq.mk z.1 z.2.1 z.2.2.1 z.2.2.2.1) z.2.2.2.2.2.2.2 0:=c
    subst c
    exact⟨_,_,_,_,_,_,rfl,rfl⟩
theorem oE(v:Int):I64 (IntKind.i64.wrap v):=by
 unfold I64
 rw[IntKind.wrap_i64]
 omega
theorem uU(b:Bool):I64 (f144 b):=by
 cases b
 ·show I64 0;unfold I64;omega
 ·show I64 1;unfold I64;omega
theorem rY(k:Nat)(hk:k<18)(a b:Int)(ha:I64 a)(hb:I64 b)(z:Int×Bool)(h:f98 ((k:Int)+1) a b=some z):I64 z.1:=by
 have h0:I64 0:=by unfold I64;omega
 have hw:∀(v:Int)(c:Bool),some (IntKind.i64.wrap v,c)=some z→I64 z.1:=λv c e=>by
  have:=inS e
  subst this
  exact oE v
 have hbit:∀(v:Bool)(c:Bool),some (f144 v,c)=some z→I64 z.1:=λv c e=>by
  have:=inS e
  subst this
  exact uU v
 rw[←jU k hk a b ha hb] at h
 match k,hk with
 |0,_=>exact hw _ _ h
 |1,_=>exact hw _ _ h
 |2,_=>exact hw _ _ h
 |3,_=>
  have h:(bif decide (b=0) then some (0,false) else Option.bind (f185 a b) λr=>some (r,true))=some z:=h
  by_cases e:b=0
  ·rw[dcT e] at h
   have:=inS h
   subst this;exact h0
  ·rw[dcF e,cdF,f185,show nz b=true by simp[nz,e]] at h
   exact hw _ _ h
 |4,_=>
  have h:(bif decide (b=0) then some (0,false) else Option.bind (f186 a b) λr=>some (r,true))=some z:=h
  by_cases e:b=0
  ·rw[dcT e] at h
   have:=inS h
   subst this;exact h0
  ·rw[dcF e,cdF,f186,show nz b=true by simp[nz,e]] at h
   have:=inS h
   subst this;exact lF a b hb e
 |5,_=>
  have h:(bif decide (b=0) then some (0,false) else Option.bind (f187 a b) λr=>some (r,true))=some z:=h
  by_cases e:b=0
  ·rw[dcT e] at h
   have:=inS h
   subst this;exact h0
  ·rw[dcF e,cdF,f187,show nz b=true by simp[nz,e]] at h
   cases hc:(decide ((Int.tmod a b)=0))||(decide ((IntKind.i64.wrap (BitVec.ofInt IntKind.i64.bits (Int.tmod a b)^^^BitVec.ofInt IntKind.i64.bits b).toNat)≥0))
   ·rw[hc] at h;exact hw _ _ h
   ·rw[hc] at h
    have:=inS h
    subst this;exact lF a b hb e
 |6,_=>exact hbit _ _ h
 |7,_=>exact hbit _ _ h
 |8,_=>exact hbit _ _ h
 |9,_=>exact hbit _ _ h
 |10,_=>exact hbit _ _ h
 |11,_=>exact hbit _ _ h
 |12,_=>exact hw _ _ h
 |13,_=>exact hw _ _ h
 |14,_=>exact hw _ _ h
 |15,_=>exact hw _ _ h
 |16,_=>
  have h:some (f199 a b,true)=some z:=h
  have:=inS h
  subst this
  show I64 (f199 a b)
  unfold f199
  split
  ·exact oE _
  ·exact ha
 |17,_=>exact hw _ _ h
 |n+18,h=>omega
theorem gf{tR:Nat→Int}(h:∀j,I64 (tR j))(d:Nat)(v:Int)(hv:I64 v):∀j,I64 (bW tR d v j):=λj=>by
 unfold bW
 cases Nat.beq j d
 ·exact h j
 ·exact hv
def RI(R:Nat→Int):Prop:=∀j,I64 (R j)
structure KS(os:List Obj)(S:List (List Int)):Prop where
 sh:Shape os S
 c:∀r∈S,∀v∈r,I64 v
theorem KS.set{os:List Obj}{S:List (List Int)}(h:KS os S){o k:Int}{x:List Int}{v:Int}(h1:idx S o=some x)(hv:I64 v):KS os (S.set o.toNat (x.set k.toNat v)):=by
 constructor
 ·have:=h.sh.set o.toNat k.toNat v
  have e:S[o.toNat]? =some x:=bd h1
  rw[e] at this
  exact this
 ·intro r hr w hw
  rcases List.mem_or_eq_of_mem_set hr with hr|rfl
  ·exact h.c r hr w hw
  ·rcases List.mem_or_eq_of_mem_set hw with hw|rfl
   ·exact h.c x (cy h1) w hw
   ·exact hv
theorem li:RI λ_=>0:=λ_=>by show I64 0;unfold I64;omega
section
variable(tR:Nat→Int)(tP:Int)(tX:Int)(tD:Int)(mI:List aB)(mH:List aG)(mO:List Obj)(mE:Int)(mN:List Int)(mS:List (List Int))(mU:List Int)
abbrev QR4:Rs ((Nat→Int)×Int×Int×Int)→Prop:=OKq λz=>RI z.1
abbrev QR5:Rs ((Nat→Int)×Int×Int×Int×(List Act))→Prop:=OKq λz=>RI z.1
theorem f131_R(hR:RI tR)(tA:List Act):Sat (f131 tR tP tX tD mI mH mO mE mN mS mU tA) QR4:=by
 unfold f131
 exact .cond (λ_=> .pure trivial) (λ_=> .pure hR)
theorem f59_R(hl:mH.length≤4096)(tA:List Act)(c1:Int):Sat (f59 tR tP tX tD mI mH mO mE mN mS mU tA c1) QR4:=by
 unfold f59
 refine .letk (λk=>∀t:Int,t<mH.length→Sat (k t) QR4) (λt ht=>?_) λk63 h63=>?_
 ·refine .cond (λ_=> .pure trivial) λh0=>?_
  refine .bind (.idx (by have:=of_decide_eq_false h0;omega)) λx _=>?_
  refine .letk (λk=>∀t,Sat (k t) QR4) (λt=>?_) λk hk=>?_
  ·exact .cond (λ_=> .pure trivial) (λ_=> .pure li)
  ·exact .cond (λ_=>hk _) (λ_=>hk _)
 ·rw[ak]
  exact f59_l1_sat tP mH c1 _ _ h63 (h63 _ oM) oM _ 0 0 rfl (Nat.zero_le _) oM
theorem f56_R(hl:mH.length≤4096)(n1:Int):Sat (f56 tR tP tX tD mI mH mO mE mN mS mU [] n1) QR5:=by
 unfold f56
 refine .bind (f59_R _ _ _ _ _ _ _ _ _ _ _ hl _ _) λr hr=>?_
 refine .cs (λe _=> .pure trivial) λz hz=>?_
 rw[hz] at hr
 exact .guard (bC oM sM) (.pure hr)
theorem f81_R(hR:RI tR)(hC:∀r∈mS,∀v∈r,I64 v)(hS:mS.length=mO.length)(tA:List Act)(x:aB)(hx:Rg x):Sat (f81 tR tP tX tD mI mH mO mE mN mS mU tA x) QR4:=by
 unfold f81
 refine .letk (λk=>Sat (k ()) QR4) (.pure trivial) λk28 h28=>?_
 refine .letk (λk=>∀t o i a b c d e,Pl mS o i→Sat (k t o i a b c d e) QR4) (λt o i a b c d e hp=>?_) λk37 h37=>?_
 ·obtain⟨x,h1,v,h2⟩:=hp
  refine .bind (.eq h1) λ_ e1=>?_
  rw[e1]
  refine .bind (.eq h2) λ_ e2=> .guard hx.d (.bind (f131_R _ _ _ _ _ _ _ _ _ _ _ (gf hR _ _ (by rw[e2];exact hC _ (cy h1) _ (cy h2))) _) λr hr=>?_)
  exact .cs (λ_ _=> .pure trivial) (λz hz=> .pure (by rw[hz] at hr;exact hr))
 ·refine .guard hx.a (.letk (λk=>∀o i,Sat (k o i) QR4) (λo i=>?_) λk41 h41=>?_)
  ·rw[ak]
   refine .letk (λk=>Pl mS o i→Sat (k ()) QR4) (λhp=>?_) λk56 h56=>?_
   ·obtain⟨x,h1,v,h2⟩:=id hp
    have:=cR h1
    refine .bind (.idx oM) λy _=>h37 _ _ _ _ _ _ _ _ hp
   ·refine .bind (qK mS o i) λb hb=> .cond (λ_=>h28) λh0=>?_
    have hp:=hb h0
    obtain⟨x,h1,v,h2⟩:=id hp
    refine .bind (.eq h1) λ_ e1=>?_
    rw[e1]
    exact .bind (.eq h2) λ_ _=>h56 hp
  ·refine .letk (λk=>∀b,Sat (k b) QR4) (λb=>?_) λk43 h43=> .cond (λ_=>h43 _) (λ_=>h43 _)
   refine .cond (λ_=> .cond (λ_=>h28) λ_=>h41 _ _) λ_=>?_
   refine .letk (λk=>∀b,Sat (k b) QR4) (λb=>?_) λk49 h49=> .cond (λ_=>h49 _) (λ_=>h49 _)
   exact .cond (λ_=> .cond (λ_=>h28) λ_=>h41 _ _) λ_=>h41 _ _
abbrev QK:Rs ((Nat→Int)×Int×Int×Int×(List (List Int)))→Prop:=OKq λz=>RI z.1∧KS mO z.2.2.2.2
theorem f82_R(hR:RI tR)(hK:KS mO mS)(hO:∀o∈mO,o.set_.length<9223372036854775808)(tA:List Act)(x:aB)(hx:Rg x):Sat (f82 tR tP tX tD mI mH mO mE mN mS mU tA x) (QK mO):=by
 have hS:=hK.sh.len
 unfold f82
 refine .guard hx.d (.letk (λk=>∀v,I64 v→Sat (k v) (QK mO)) (λv46 h46=>?_) λk hk=>?_)
 ·refine .letk (λk=>Sat (k ()) (QK mO)) (.pure trivial) λk50 h50=>?_
  refine .letk (λk=>∀t o i a b c d e,t∈mO→Pl mS o i→Sat (k t o i a b c d e) (QK mO)) (λt o i a b c d e ht hp=>?_) λk59 h59=>?_
  ·refine .bind (f63_sat t v46 (hO t ht)) λr _=> .cond (λ_=> .pure trivial) λ_=>?_
   refine .bind (f131_R _ _ _ _ _ _ _ _ _ _ _ hR _) λr hr=> .cs (λ_ _=> .pure trivial) λz hz=>?_
   rw[hz] at hr
   obtain⟨x,h1,v,h2⟩:=hp
   refine .bind (.eq h1) λ_ e1=>?_
   rw[e1]
   exact .bind (.eq h2) λ_ e2=> .pure ⟨hr,hK.set h1 h46⟩
  ·refine .guard hx.a (.letk (λk=>∀o i,Sat (k o i) (QK mO)) (λo i=>?_) λk41 h41=>?_)
   ·rw[ak]
    refine .letk (λk=>Pl mS o i→Sat (k ()) (QK mO)) (λhp=>?_) λk56 h56=>?_
    ·obtain⟨x,h1,v,h2⟩:=id hp
     have:=cR h1
     refine .bind (.idx oM) λy hy=>h59 _ _ _ _ _ _ _ _ (cy hy) hp
    ·refine .bind (qK mS o i) λb hb=> .cond (λ_=>h50) λh0=>?_
     have hp:=hb h0
     obtain⟨x,h1,v,h2⟩:=id hp
     refine .bind (.eq h1) λ_ e1=>?_
     rw[e1]
     exact .bind (.eq h2) λ_ _=>h56 hp
   ·refine .letk (λk=>∀b,Sat (k b) (QK mO)) (λb=>?_) λk43 h43=> .cond (λ_=>h43 _) (λ_=>h43 _)
    refine .cond (λ_=> .cond (λ_=>h50) λ_=>h41 _ _) λ_=>?_
    refine .letk (λk=>∀b,Sat (k b) (QK mO)) (λb=>?_) λk49 h49=> .cond (λ_=>h49 _) (λ_=>h49 _)
    exact .cond (λ_=> .cond (λ_=>h50) λ_=>h41 _ _) λ_=>h41 _ _
 ·exact .cond (λ_=> .guard hx.a (hk _ (hR _))) (λ_=>hk _ (hR _))
theorem f83_R(hR:RI tR)(tA:List Act)(x:aB)(hx:Rg x):Sat (f83 tR tP tX tD mI mH mO mE mN mS mU tA x) QR4:=by
 unfold f83
 refine .guard hx.a (.cond (λ_=> .pure hR) λ_=>?_)
 refine .letk (λk=>∀b,Sat (k b) QR4) (λb=>?_) λk hk=> .cond (λ_=>hk _) (λ_=> .cond (λ_=>hk _) λ_=>hk _)
 exact .cond (λ_=> .pure hR) λ_=> .bind (f131_R _ _ _ _ _ _ _ _ _ _ _ hR _) λr hr=> .cs (λ_ _=> .pure trivial) (λz hz=> .pure (by rw[hz] at hr;exact hr))
theorem f84_R(hR:RI tR)(hl:mH.length≤4096)(x:aB)(hx:Rg x):Sat (f84 tR tP tX tD mI mH mO mE mN mS mU [] x) QR5:=by
 unfold f84
 refine .guard hx.a (.cond (λ_=>?_) λ_=>?_)
 ·exact .bind (f56_R _ _ _ _ _ _ _ _ _ _ _ hl _) λr hr=> .cs (λ_ _=> .pure trivial) (λz hz=> .pure (by rw[hz] at hr;exact hr))
 ·exact .bind (f131_R _ _ _ _ _ _ _ _ _ _ _ hR _) λr hr=> .cs (λ_ _=> .pure trivial) (λz hz=> .pure (by rw[hz] at hr;exact hr))
theorem f85_R(hR:RI tR)(hl:mH.length≤4096)(x:aB)(hx:Rg x):Sat (f85 tR tP tX tD mI mH mO mE mN mS mU [] x) QR5:=by
 unfold f85
 refine .guard hx.a (.cond (λ_=>?_) λ_=> .cond (λ_=>?_) λ_=> .cond (λ_=> .pure trivial) λ_=> .cond (λ_=>?_) λ_=>?_)
 ·exact .bind (f56_R _ _ _ _ _ _ _ _ _ _ _ hl _) λr hr=> .cs (λ_ _=> .pure trivial) (λz hz=> .pure (by rw[hz] at hr;exact hr))
 ·exact .bind (f131_R _ _ _ _ _ _ _ _ _ _ _ hR _) λr hr=> .cs (λ_ _=> .pure trivial) (λz hz=> .pure (by rw[hz] at hr;exact hr))
 ·exact .bind (f59_R _ _ _ _ _ _ _ _ _ _ _ hl _ _) λr hr=> .cs (λ_ _=> .pure trivial) (λz hz=> .pure (by rw[hz] at hr;exact hr))
 ·exact .bind (f56_R _ _ _ _ _ _ _ _ _ _ _ hl _) λr hr=> .cs (λ_ _=> .pure trivial) (λz hz=> .pure (by rw[hz] at hr;exact hr))
abbrev QR7:Rs ((Nat→Int)×Int×Int×Int×(List Int)×(List Int)×(List Act))→Prop:=OKq λz=>RI z.1
theorem f86_R(hR:RI tR)(hN:∀v∈mN,I64 v)(hl:mH.length≤4096)(x:aB)(hx:Rg x)(hU:mU.length≤1000000):Sat (f86 tR tP tX tD mI mH mO mE mN mS mU [] x) QR7:=by
 unfold f86
 refine .cond (λh37=>?_) λ_=> .cond (λ_=>?_) λ_=> .cond (λh0=>?_) λh0=>?_
 ·refine .bind (f131_R _ _ _ _ _ _ _ _ _ _ _ hR _) λr hr=> .cs (λ_ _=> .pure trivial) (λz hz=>?_)
  rw[hz] at hr
  exact .letk (λk=>∀c,Sat (k c) QR7) (λc=> .guard (bC oM sM) (.pure hr)) λk hk=> .cond (λ_=>hk _) (λ_=>hk _)
 ·refine .guard hx.a (.bind (f131_R _ _ _ _ _ _ _ _ _ _ _ hR _) λr hr=> .cs (λ_ _=> .pure trivial) λz hz=>?_)
  rw[hz] at hr
  exact .guard (bC oM (by simp;omega)) (.guard (bC oM sM) (.pure hr))
 ·exact .bind (f56_R _ _ _ _ _ _ _ _ _ _ _ hl _) λr hr=> .cs (λ_ _=> .pure trivial) (λz hz=> .pure (by rw[hz] at hr;exact hr))
 ·have h0:=of_decide_eq_false h0
  refine .bind (f131_R _ _ _ _ _ _ _ _ _ _ _ hR _) λr hr=> .cs (λ_ _=> .pure trivial) (λz hz=>?_)
  rw[hz] at hr
  obtain⟨v,N,rfl⟩:∃v N,mN=v::N:=by
   cases mN with
   |nil=>exact absurd rfl h0
   |cons v N=>exact⟨v,N,rfl⟩
  have e:idx (v::N) 0=some v:=rfl
  refine .bind (.eq e) λw hw=> .guard hx.d (.bind (.eq e) λy hy=> .guard (bC oM sM) (.guard (by simp[dN];omega) (.pure ?_)))
  exact gf hr _ _ (by rw[hw];exact hN v List.mem_cons_self)
theorem f87_R(hR:RI tR)(hX:I64 tX)(tA:List Act)(x:aB)(hn:I64 x.n)(hx:Rg x):Sat (f87 tR tP tX tD mI mH mO mE mN mS mU tA x) QR4:=by
 unfold f87
 refine .letk (λk=>∀R d,RI R→Sat (k R d) QR4) (λR d hR=>?_) λk hk=>?_
 ·refine .cond (λ_=> .pure trivial) λ_=> .bind (f131_R _ _ _ _ _ _ _ _ _ _ _ hR _) λr hr=> .cs (λ_ _=> .pure trivial) (λz hz=> .pure (by rw[hz] at hr;exact hr))
 ·exact .cond (λ_=> .guard hx.d (hk _ _ (gf hR _ _ hn))) λ_=> .cond (λ_=> .guard hx.a (.guard hx.d (hk _ _ (gf hR _ _ (hR _))))) λ_=> .cond (λ_=> .guard hx.d (hk _ _ (gf hR _ _ hX))) λ_=> .cond (λ_=>hk _ _ hR) λ_=> .cond (λ_=>hk _ _ hR) (λ_=>hk _ _ hR)
theorem f88_R(hR:RI tR)(tA:List Act)(x:aB)(hx:Rg x)(ho:9≤x.op∧x.op≤26):Sat (f88 tR tP tX tD mI mH mO mE mN mS mU tA x) QR4:=by
 obtain⟨k,hk⟩:∃k:Nat,x.op=(k:Int)+9:=⟨(x.op - 9).toNat,oM⟩
 have hk18:k<18:=oM
 have hb:=hx.b oM oM
 have e1:IntKind.u8.wrap (1+IntKind.u8.wrap (x.op - 9))=(k:Int)+1:=by
  rw[hk]
  have e:∀v:Int,IntKind.u8.wrap v=v%256:=λv=>by simp[IntKind.wrap,IntKind.signed,IntKind.bits]
  rw[e,e];omega
 unfold f88
 rw[e1]
 refine .guard hx.a (.guard hb (.bind (P:=λz=>I64 z.1) ?_ λz hz=> .cond (λ_=> .pure trivial) λ_=> .guard hx.d ?_))
 ·obtain⟨z,h1,_⟩:=f132_sat ((k:Int)+1) (tR (Int.toNat x.a)) (tR (Int.toNat x.b))
  refine⟨z,h1,rY k hk18 _ _ (hR (Int.toNat x.a)) (hR (Int.toNat x.b)) z ?_⟩
  rw[←jU k hk18 _ _ (hR (Int.toNat x.a)) (hR (Int.toNat x.b))];exact h1
 ·exact .bind (f131_R _ _ _ _ _ _ _ _ _ _ _ (gf hR _ _ hz) _) λr hr=> .cs (λ_ _=> .pure trivial) (λz hz=> .pure (by rw[hz] at hr;exact hr))
abbrev QE8:Rs Z8→Prop:=OKq λz=>RI z.1∧KS mO z.2.2.2.2.2.1
theorem uE:∀k:Nat,k<41→mth (((k+1:Nat):Int))≠88∨(9≤k+1∧k+1≤26):=by decide+kernel
theorem fm_R(hv:MV mI mH mO mS)(hR:RI tR)(hX:I64 tX)(hK:KS mO mS)(hN:∀v∈mN,I64 v)(hU:mU.length≤1000000)(x:aB)(hx:Rg x)(hop:1≤x.op∧x.op≤41)(hn:I64 x.n):
  Sat (fm (mth x.op) tR tP tX tD mI mH mO mE mN mS mU [] x) (QE8 mO):=by
 have hr:=qR x.op
 have h88:mth x.op=88→9≤x.op∧x.op≤26:=λh=>by
  obtain⟨k,hk⟩:∃k:Nat,x.op=((k+1:Nat):Int):=⟨(x.op - 1).toNat,oM⟩
  rw[hk] at h
  have:=uE k oM
  omega
 generalize mth x.op=n at hr h88
 unfold fm
 refine .cond (λ_=>?_) λe1=> .cond (λ_=>?_) λe2=> .cond (λ_=>?_) λe3=> .cond (λ_=>?_) λe4=> .cond (λ_=>?_) λe5=> .cond (λ_=>?_) λe6=> .cond (λ_=>?_) λe7=> .cond (λe=>?_) λe8=>?_
 ·exact .bind (f81_R _ _ _ _ _ _ _ _ _ _ _ hR hK.c hv.s _ _ hx) λr hr=> .pure (by cases r<;>first|trivial|exact⟨hr,hK⟩)
 ·exact .bind (f82_R _ _ _ _ _ _ _ _ _ _ _ hR hK hv.o _ _ hx) λr hr=> .pure (by cases r<;>first|trivial|exact hr)
 ·exact .bind (f83_R _ _ _ _ _ _ _ _ _ _ _ hR _ _ hx) λr hr=> .pure (by cases r<;>first|trivial|exact⟨hr,hK⟩)
 ·exact .bind (f84_R _ _ _ _ _ _ _ _ _ _ _ hR hv.h _ hx) λr hr=> .pure (by cases r<;>first|trivial|exact⟨hr,hK⟩)
 ·exact .bind (f85_R _ _ _ _ _ _ _ _ _ _ _ hR hv.h _ hx) λr hr=> .pure (by cases r<;>first|trivial|exact⟨hr,hK⟩)
 ·exact .bind (f86_R _ _ _ _ _ _ _ _ _ _ _ hR hN hv.h _ hx hU) λr hr=> .pure (by cases r<;>first|trivial|exact⟨hr,hK⟩)
 ·exact .bind (f87_R _ _ _ _ _ _ _ _ _ _ _ hR hX _ _ hn hx) λr hr=> .pure (by cases r<;>first|trivial|exact⟨hr,hK⟩)
 ·exact .bind (f88_R _ _ _ _ _ _ _ _ _ _ _ hR _ _ hx (h88 (by simpa using e))) λr hr=> .pure (by cases r<;>first|trivial|exact⟨hr,hK⟩)
 ·exfalso
  have:=Nat.ne_of_beq_eq_false e1
  have:=Nat.ne_of_beq_eq_false e2
  have:=Nat.ne_of_beq_eq_false e3
  have:=Nat.ne_of_beq_eq_false e4
  have:=Nat.ne_of_beq_eq_false e5
  have:=Nat.ne_of_beq_eq_false e6
  have:=Nat.ne_of_beq_eq_false e7
  have:=Nat.ne_of_beq_eq_false e8
  omega
theorem f45_R(hv:MV mI mH mO mS)(hn:∀x∈mI,I64 x.n)(hR:RI tR)(hX:I64 tX)(hK:KS mO mS)(hN:∀v∈mN,I64 v)(hU:mU.length≤1000000)(hp:0≤tP∧tP<mI.length):Sat (f45 tR tP tX tD mI mH mO mE mN mS mU []) (QE8 mO):=by
 unfold f45
 refine .bind (.idx hp) λx hx=> .cond (λ_=> .pure trivial) λh36=>?_
 have hm:=hv.i x (cy hx)
 have ho:=(f36_iff hm.2).1 (by simpa using h36)
 have hr:=n6 hm.1 ho
 rw[f46_eq,bnS]
 refine .bind (fm_R _ _ _ _ _ _ _ _ _ _ _ hv hR hX hK hN hU _ hr ho (hn x (cy hx))) λr hr=> .cs (λ_ _=> .pure trivial) λz hz=> .pure ?_
 rw[hz] at hr
 exact hr
theorem f11_R(hv:MV mI mH mO mS)(hE:mE≤64)(hn:∀x∈mI,I64 x.n)(hK:KS mO mS)(hN:∀v∈mN,I64 v)(hU:mU.length≤1000000)(r:aq)(hR:RI r.r):Sat (f11 mI mH mO mE mN mS mU r) (λz=>RI z.1.r∧KS mO z.2.2.2.2.1):=by
 unfold f11
 refine .bind (P:=λz=>RI z.1.r∧KS mO z.2.2.2.2.1) ?_ λr hr=> .pure hr
 unfold f44_45
 refine .bind (.eq rfl) λb _=> .cond (λ_=> .pure ⟨li,hK⟩) λ_=> .cond (λ_=> .pure ⟨li,hK⟩) λh=>?_
 simp only[Bool.or_eq_false_iff,decide_eq_false_iff_not] at h
 refine .bind (f45_R _ _ _ _ _ _ _ _ _ _ _ hv hn hR (by unfold I64;omega) hK hN hU oM) λr hr=> .cs (λ_ _=> .pure ⟨li,hK⟩) λz hz=> .pure ?_
 rw[hz] at hr
 exact⟨hr.1,hr.2⟩
end
theorem je{os:List Obj}{S:List (List Int)}(h:Shape os S)(ho:∀o∈os,o.size≤16384):∀r∈S,r.length≤16384:=λr hr=>by
 have h1:(r.length:Int)∈S.map (λr=>(r.length:Int)):=List.mem_map_of_mem hr
 have h2:S.map (λr=>(r.length:Int))=os.map (·.size):=h
 rw[h2] at h1
 obtain⟨o,h3,h4⟩:=List.mem_map.1 h1
 have:=ho o h3
 omega
theorem oR{os:List Obj}(hs:os.length≤4096):∀(L:List Int)(last:Int),fQ os last L=true→∀n∈L,0≤n∧n<9223372036854775807
 |[],_,_,n,h=>by cases h
 |x::r,last,h,n,hn=>by
  rw[fQ,Bool.and_eq_true,Bool.and_eq_true] at h
  rcases List.mem_cons.1 hn with rfl|hn
  ·have ha:=h.1.2
   unfold aim at ha
   cases hi:idx os n with
   |none=>rw[hi] at ha;cases ha
   |some y=>have:=cR hi;omega
  ·exact oR hs r x h.2 n hn
theorem o4{t:aj}(hv:VT t):∀y∈t.objs,y.set_.length<9223372036854775808∧∀n∈y.set_,0≤n∧n<9223372036854775807:=λy hy=>by
 refine⟨hv.sz.sets y hy,λn hn=>?_⟩
 have h:=hv.obj y hy
 unfold ef at h
 rw[Bool.and_eq_true] at h
 cases hp:y.ptr
 ·have h2:=h.2
  rw[hp,Bool.not_false,cdT,decide_eq_true_eq] at h2
  have:y.set_=[]:=List.length_eq_zero_iff.1 oM
  rw[this] at hn
  cases hn
 ·have h2:=h.2
  rw[hp,Bool.not_true,cdF,Bool.and_eq_true] at h2
  exact oR hv.objs _ _ h2.1 n hn
theorem l8{t:aj}(hv:VT t):∀y∈t.objs,y.size≤16384:=λy hy=>by
 have h:=hv.obj y hy
 unfold ef at h
 simp only[Bool.and_eq_true,Bool.not_eq_true',Bool.or_eq_false_iff,decide_eq_false_iff_not] at h
 omega
structure SzN(t:aj):Prop where
 n:∀x∈t.insns,I64 x.n
 lo:∀o∈t.objs,I64 o.lo
 iv:∀x∈t.inits,I64 x.v
theorem vY{S:List (List Int)}{x:d3}(hx:I64 x.v)(h:∀r∈S,∀v∈r,I64 v):∀r∈ld S x,∀v∈r,I64 v:=by
 unfold ld
 intro r hr v hv
 rcases List.mem_or_eq_of_mem_set hr with hr|rfl
 ·exact h r hr v hv
 ·rcases List.mem_or_eq_of_mem_set hv with hv|rfl
  ·cases he:S[x.o.toNat]? with
   |none=>rw[he] at hv;cases hv
   |some y=>rw[he] at hv;exact h y (List.mem_of_getElem? he) v hv
  ·exact hx
theorem tr:∀(L:List d3)(S:List (List Int)),(∀x∈L,I64 x.v)→(∀r∈S,∀v∈r,I64 v)→∀r∈L.foldl ld S,∀v∈r,I64 v
 |[],S,_,h=>h
 |x::L,S,hL,h=>tr L (ld S x) (λy hy=>hL y (List.mem_cons_of_mem _ hy)) (vY (hL x List.mem_cons_self) h)
theorem sP{t:aj}(hv:VT t)(hn:SzN t):KS t.objs (store t):=by
 refine⟨kL hv,tr _ _ hn.iv λr hr v hv'=>?_⟩
 obtain⟨o,ho,rfl⟩:=List.mem_map.1 hr
 unfold bX at hv'
 have:=List.eq_of_mem_replicate hv'
 subst this
 unfold rM
 cases fits o 0
 ·exact hn.lo o ho
 ·show I64 0;unfold I64;omega
theorem f10o_l1_eq(R:List Obj)(k:List Obj→Option (Int×(List aB)×(List aG)×(List Obj)×Int×(List Int)×(List (List Int))×(List Int)))(hl:R.length<9223372036854775808)(hs:∀o∈R,o.set_.length≤4096):∀(n i:Nat)(z:Int),z=(i:Int)→i≤R.length→R.length<n+i→
  f10o_l1 R k n z R=k R
 |0,i,z,_,_,h=>oM
 |n+1,i,z,hz,hi,h=>by
  subst hz
  rw[f10o_l1]
  by_cases hh:i<R.length
  ·have:=hs _ (List.getElem_mem hh)
   rw[dO hh,cdT,aA hh,bnS,f43,bE _ (bC oM (by simp;omega)),bnS,bnS,w1 hh hl]
   simp only[Int.toNat_natCast]
   rw[show Obj.mk R[i].size R[i].lo R[i].hi R[i].ptr R[i].set_=R[i] from rfl,List.set_getElem_self]
   exact f10o_l1_eq R k hl hs n (i+1) _ rfl oM oM
  ·have ei:i=R.length:=oM
   rw[ei,dq,cdF]
theorem f10o_eq(t:aj)(in1:List Int)(hs:Sz t)(h:MayB t=true)(hin:in1.length≤1000000):f10o in1 t=some (0,t.insns,t.handlers,t.objs,t.excs,in1,store t,[]):=by
 have hv:=lj hs h
 have h1:=hv.objs
 have h2:=hv.n
 have h3:=hv.hdls
 unfold f10o
 rw[f37_eq t hs,h,bnS,Bool.not_true,cdF]
 unfold f38 f39 f40n f42c
 rw[bE _ (bC oM (by simp;omega)),bnS,bE _ (bC oM (by simp;omega)),bnS,bE _ (bC oM (by simp;omega)),bnS,f41_eq t hs h,bnS,bE _ (bC oM (by simp;omega)),bnS,ak]
 exact f10o_l1_eq t.objs _ oM (λo ho=>by have:=hv.o ho;omega) _ 0 0 rfl (Nat.zero_le _) oM
theorem f6_l1_eq(k:List Int→Option Bool)(hk:∀L,k L=some true):∀(n i:Nat)(z:Int)(L:List Int),z=(i:Int)→i≤L.length→L.length<n+i→L.length≤1000000→f6_l1 k n z L=some true
 |0,i,z,L,_,_,h,_=>oM
 |n+1,i,z,L,hz,hi,h,hL=>by
  subst hz
  rw[f6_l1]
  by_cases hh:i<L.length
  ·rw[dO hh,cdT,aA hh,bnS,bnS,w1 hh oM]
   exact f6_l1_eq k hk n (i+1) _ _ rfl (by rw[List.length_set];omega) (by rw[List.length_set];omega) (by rw[List.length_set];omega)
  ·have ei:i=L.length:=oM
   rw[ei,dq,cdF,hk]
theorem f6_l4_eq(j:Nat)(k:List (List Int)→Option Bool)(hk:∀L:List (List Int),L.length≤1000000→(∀r∈L,r.length≤1000000)→j<L.length→k L=some true):∀(n i:Nat)(z:Int)(L:List (List Int))(hj:j<L.length),z=(i:Int)→i≤L[j].length→L[j].length<n+i→L.length≤1000000→(∀r∈L,r.length≤1000000)→f6_l4 (j:Int) k n z L=some true
 |0,i,z,L,hj,_,_,h,_,_=>oM
 |n+1,i,z,L,hj,hz,hi,h,hL,hr=>by
  subst hz
  have hrj:=hr _ (List.getElem_mem hj)
  rw[f6_l4,aA hj,bnS]
  by_cases hh:i<L[j].length
  ·rw[dO hh,cdT,bnS,aA hh,bnS,bnS,w1 hh oM,Int.toNat_natCast]
   refine f6_l4_eq j k hk n (i+1) _ _ (by rw[List.length_set];exact hj) rfl ?_ ?_ (by rw[List.length_set];omega) (λr hm=>?_)
   ·rw[List.getElem_set_self,List.length_set];omega
   ·rw[List.getElem_set_self,List.length_set];omega
   ·rcases List.mem_or_eq_of_mem_set hm with hm|rfl
    ·exact hr r hm
    ·rw[List.length_set];omega
  ·have ei:i=L[j].length:=oM
   rw[ei,dq,cdF,hk L hL hr hj]
theorem f6_l3_eq(k:List (List Int)→Option Bool)(hk:∀L,k L=some true):∀(n i:Nat)(z:Int)(L:List (List Int)),z=(i:Int)→i≤L.length→1000000<n+i→L.length≤1000000→(∀r∈L,r.length≤1000000)→f6_l3 k n z L=some true
 |0,i,z,L,_,_,h,_,_=>oM
 |n+1,i,z,L,hz,hi,h,hL,hr=>by
  subst hz
  rw[f6_l3]
  by_cases hh:i<L.length
  ·rw[dO hh,cdT,ak,w1 hh oM]
   have hrj:=hr _ (List.getElem_mem hh)
   obtain⟨F,hF⟩:∃F:Nat,F=9223372036854775808:=⟨_,rfl⟩
   rw[←hF]
   exact f6_l4_eq i (λl415=>f6_l3 k n ((i+1:Nat):Int) l415) (λL' h1 h2 h3=>f6_l3_eq k hk n (i+1) _ L' rfl oM oM h1 h2) F 0 0 L hh rfl (Nat.zero_le _) oM hL hr
  ·have ei:i=L.length:=oM
   rw[ei,dq,cdF,hk]
theorem f28o_l1_eq(S:List (List Int))(k:List (List Int)→Option (List (List Int)))(hl:S.length≤1000000)(hs:∀r∈S,r.length≤1000000000000):∀(n i:Nat)(z:Int),z=(i:Int)→i≤S.length→S.length<n+i→
  f28o_l1 S k n z (S.take i++List.replicate (S.length - i) [])=k S
 |0,i,z,_,_,h=>oM
 |n+1,i,z,hz,hi,h=>by
  subst hz
  rw[f28o_l1]
  by_cases hh:i<S.length
  ·have hr:=hs _ (List.getElem_mem hh)
   have hL:(S.take i++List.replicate (S.length - i) ([]:List Int)).length=S.length:=by simp;omega
   rw[dO hh,cdT,aA hh,bnS]
   unfold f42mn
   rw[aA hh,bnS,bE _ (bC oM (by simp;omega)),bnS,aA oM,bnS,w1 hh oM,Int.toNat_natCast]
   have e:(S.take i++List.replicate (S.length - i) ([]:List Int)).set i S[i]=S.take (i+1)++List.replicate (S.length - (i+1)) []:=by
    rw[List.set_append_right _ _ (by simp;omega)]
    have e:i - (S.take i).length=0:=by simp;omega
    obtain⟨q,hq⟩:∃q,S.length - i=q+1:=⟨S.length - i - 1,oM⟩
    rw[e,hq,List.replicate_succ,List.set_cons_zero,List.take_succ_eq_append_getElem hh,List.append_assoc,show S.length - (i+1)=q by omega]
    rfl
   rw[e]
   exact f28o_l1_eq S k hl hs n (i+1) _ rfl oM oM
  ·have ei:i=S.length:=oM
   rw[ei,dq,cdF,Nat.sub_self,List.replicate_zero,List.append_nil,List.take_length]
theorem f28o_eq(mI:List aB)(mH:List aG)(mO:List Obj)(mE:Int)(mN:List Int)(S:List (List Int))(mU:List Int)(hI:1≤mI.length)(hl:S.length≤1000000)(hs:∀r∈S,r.length≤1000000000000):f28o mI mH mO mE mN S mU=some S:=by
 unfold f28o f47
 rw[dcF (by omega:¬(mI.length:Int)=0),bnS,cdF,bE _ (ma oM oM oM),ak]
 have e:=f28o_l1_eq S (λl36=>some l36) hl hs (Int.toNat ((List.length S:Int) - 0)+1) 0 0 rfl (Nat.zero_le _) oM
 rw[List.take_zero,List.nil_append,Nat.sub_zero] at e
 rw[Int.toNat_natCast]
 exact e
section
variable(t:aj)(hv:VT t)(N:List Int)(S:List (List Int))(U:List Int)
include hv
theorem kr:f47 t.insns t.handlers t.objs t.excs N S U=some false:=by
 have h:=hv.n
 unfold f47
 rw[dcF (by omega:¬(t.insns.length:Int)=0)]
theorem vp(r:aq)(b:Bool):(((((((decide (r.pc<0))||(decide (r.pc≥(List.length t.insns:Int))))||(decide (r.exc<(-2))))||(decide (r.exc>t.excs)))||(decide (r.defer<0)))||(decide (r.defer>1000000)))||(!b))= !(f31 t r&&b):=by
 have e:f31 t r=(((((decide (r.pc≥0)&&decide (r.pc<(List.length t.insns:Int)))&&(decide (r.exc≥(-2))))&&(decide (r.exc≤t.excs)))&&(decide (r.defer≥0)))&&(decide (r.defer≤1000000))):=rfl
 rw[e,Bool.eq_iff_iff]
 simp only[Bool.or_eq_true,Bool.not_eq_true',Bool.and_eq_false_iff,decide_eq_true_eq,decide_eq_false_iff_not]
 cases b<;>simp<;>omega
theorem sZ(r:aq)(v:Int):∃z,f20 t.insns t.handlers t.objs t.excs N S U r v=some z∧f21 (Mem.mk t S N U) r v=some z:=by
 have key:∀b,(b=true→v>0)→∃z,f44_55 t.insns t.handlers t.objs t.excs N S U r b v=some z∧(bif !(f31 t r&&b) then some ((aq.mk (λ_=>0) 0 0 0),([]:List Act),(2:Int)) else Option.bind (f57 t r v) λr38=>some (r38.1,r38.2.1,r38.2.2))=some z:=λb hb=>by
  unfold f44_55
  rw[kr t hv,bnS,cdF,vp t hv]
  cases hf:f31 t r&&b
  ·exact⟨_,rfl,rfl⟩
  ·rw[Bool.and_eq_true] at hf
   obtain⟨R,P,X,D⟩:=r
   obtain⟨q,s,h1,h2,h3⟩:=gh t hv.hdls R P X D v (hb hf.2) t.insns t.objs t.excs N S U
   unfold f55
   rw[Bool.not_true,cdF,cdF]
   dsimp only
   have e:Option.bind (f57 t (aq.mk R P X D) v) (λr145=>some (av.mk (Mem.mk t S N U) r145.1 r145.2.1 r145.2.2))=some s:=h2
   cases h7:f57 t (aq.mk R P X D) v with
   |none=>rw[h7] at e;cases e
   |some w=>
    rw[h7] at e
    have e:=inS e
    subst e
    rw[h1]
    cases q with
    |bad c=>
     obtain⟨c1,c2⟩:=h3
     have c2:w.2.2=c:=c2
     subst c2
     refine⟨_,rfl,?_⟩
     unfold f57 at h7
     cases h60:f60 t (aq.mk R P X D) v with
     |none=>rw[h60] at h7;cases h7
     |some u=>
      rw[h60,bnS] at h7
      by_cases hu:u.2=0
      ·rw[dcT hu] at h7
       have:=inS h7
       subst this
       exact absurd rfl c1
      ·rw[dcF hu] at h7
       have:=inS h7
       subst this
       rfl
    |ok z=>
     have h3:av.mk (Mem.mk t S N U) w.1 w.2.1 w.2.2=av.mk (Mem.mk t S N U) (aq.mk z.1 z.2.1 z.2.2.1 z.2.2.2.1) z.2.2.2.2 0:=h3
     have a1:w.1=aq.mk z.1 z.2.1 z.2.2.1 z.2.2.2.1:=congrArg av.r h3
     have a2:w.2.1=z.2.2.2.2:=congrArg av.acts h3
     have a3:w.2.2=0:=congrArg av.e h3
     refine⟨_,rfl,?_⟩
     rw[bnS,a1,a2,a3]
 unfold f20 f21
 simp only[ak]
 rw[kr t hv,bnS]
 have fin:∀b,(b=true→v>0)→((!(f31 t r)||decide (v<1))||decide (v>t.excs))= !(f31 t r&&b)→∃z,(Option.bind (f44_55 t.insns t.handlers t.objs t.excs N S U r b v) λr44=>some ((aq.mk r44.1.r r44.1.pc r44.1.exc r44.1.defer),r44.2.1,r44.2.2))=some z∧(bif ((!(f31 t r)||decide (v<1))||decide (v>t.excs)) then some ((aq.mk (λ_=>0) 0 0 0),([]:List Act),(2:Int)) else Option.bind (f57 t r v) λr38=>some (r38.1,r38.2.1,r38.2.2))=some z:=λb hb he=>by
  obtain⟨z,h1,h2⟩:=key b hb
  rw[he,h1]
  exact⟨z,rfl,h2⟩
 by_cases h1:v≥1
 ·rw[dcT h1,Bool.not_false,cdT,cdT]
  refine fin (decide (v≤t.excs)) (λ_=>oM) ?_
  rw[dcF (show¬v<1 by omega),Bool.or_false]
  by_cases h2:v≤t.excs
  ·rw[dcT h2,dcF oM,Bool.or_false,Bool.and_true]
  ·rw[dcF h2,dcT oM,Bool.or_true,Bool.and_false];rfl
 ·rw[dcF h1,cdF]
  refine fin false (λh=>by cases h) ?_
  rw[dcT (show v<1 by omega),Bool.or_true,Bool.and_false];rfl
theorem uJ(r:aq)(v:Int):∃z,f22 t.insns t.handlers t.objs t.excs N S U r v=some z∧f23 (Mem.mk t S N U) r v=some z:=by
 have key:∀b,(b=true→v≠0)→∃z,f44_58 t.insns t.handlers t.objs t.excs N S U r b v=some z∧(bif !(f31 t r&&b) then some ((aq.mk (λ_=>0) 0 0 0),(2:Int)) else Option.bind (f60 t r v) λr40=>some (r40.1,r40.2))=some (z.1,z.2.2):=λb hb=>by
  unfold f44_58
  rw[kr t hv,bnS,cdF,vp t hv]
  cases hf:f31 t r&&b
  ·exact⟨_,rfl,rfl⟩
  ·rw[Bool.and_eq_true] at hf
   obtain⟨R,P,X,D⟩:=r
   unfold f58
   rw[Bool.not_true,cdF,cdF]
   dsimp only
   rcases qp t hv.hdls R P X D v (hb hf.2) t.insns t.objs t.excs N S U [] with⟨h1,h2⟩|⟨a,d,h1,h2⟩
   ·rw[h1,h2];exact⟨_,rfl,rfl⟩
   ·rw[h1,h2];exact⟨_,rfl,rfl⟩
 unfold f22 f23
 simp only[ak]
 rw[kr t hv,bnS]
 have fin:∀b,(b=true→v≠0)→(((!(f31 t r)||decide (v=0))||decide (v< -2))||decide (v>t.excs))= !(f31 t r&&b)→∃z,(Option.bind (f44_58 t.insns t.handlers t.objs t.excs N S U r b v) λr44=>some ((aq.mk r44.1.r r44.1.pc r44.1.exc r44.1.defer),r44.2.2))=some z∧(bif (((!(f31 t r)||decide (v=0))||decide (v< -2))||decide (v>t.excs)) then some ((aq.mk (λ_=>0) 0 0 0),(2:Int)) else Option.bind (f60 t r v) λr40=>some (r40.1,r40.2))=some z:=λb hb he=>by
  obtain⟨z,h1,h2⟩:=key b hb
  rw[he,h1]
  exact⟨_,rfl,h2⟩
 by_cases h1:v≥-2
 ·rw[dcT h1,Bool.not_false,cdT,cdT]
  by_cases h0:v=0
  ·rw[dcT h0,Bool.not_true,cdF]
   have e0:=dcT h0
   refine Exists.imp (λz h=>?_) (fin false (λh=>by cases h) (by rw[e0,Bool.or_true,Bool.true_or,Bool.true_or,Bool.and_false];rfl))
   rw[e0] at h
   exact h
  ·rw[dcF h0,Bool.not_false,cdT]
   have e0:=dcF h0
   refine Exists.imp (λz h=>?_) (fin (decide (v≤t.excs)) (λ_=>h0) (by
    rw[e0,dcF (show¬v< -2 by omega),Bool.or_false,Bool.or_false]
    by_cases h2:v≤t.excs
    ·rw[dcT h2,dcF oM,Bool.or_false,Bool.and_true]
    ·rw[dcF h2,dcT oM,Bool.or_true,Bool.and_false];rfl))
   rw[e0] at h
   exact h
 ·rw[dcF h1,cdF]
  exact fin false (λh=>by cases h) (by rw[dcT (show v< -2 by omega),Bool.or_true,Bool.true_or,Bool.and_false];rfl)
theorem lJ(o k:Int):((bif (((decide (o<0))||(decide (o≥(List.length S:Int))))||(decide (k<0))) then some true else(Option.bind (idx S o) λx30=>some (decide (k≥(List.length x30:Int)))))=some true∧f62 (Mem.mk t S N U) o k=some false)∨
  ∃x v,idx S o=some x∧idx x k=some v∧(bif (((decide (o<0))||(decide (o≥(List.length S:Int))))||(decide (k<0))) then some true else(Option.bind (idx S o) λx30=>some (decide (k≥(List.length x30:Int)))))=some false∧f62 (Mem.mk t S N U) o k=some true:=by
 unfold f62
 dsimp only
 by_cases h:0≤o∧o<(S.length:Int)∧0≤k
 ·obtain⟨x,hx,_⟩:=aR (L:=S) (i:=o) ⟨h.1,h.2.1⟩
  rw[hx,dcF (show¬o<0 by omega),dcF (show¬o≥(S.length:Int) by omega),dcF (show¬k<0 by omega),dcT (show o≥0 by omega),dcT h.2.1,dcT (show k≥0 by omega)]
  by_cases h2:k<(x.length:Int)
  ·obtain⟨v,hv',_⟩:=aR (L:=x) (i:=k) ⟨h.2.2,h2⟩
   refine .inr ⟨x,v,rfl,hv',?_,?_⟩
   ·show some (decide (k≥(x.length:Int)))=_
    rw[dcF oM]
   ·show some (decide (k<(x.length:Int)))=_
    rw[dcT h2]
  ·refine .inl ⟨?_,?_⟩
   ·show some (decide (k≥(x.length:Int)))=_
    rw[dcT oM]
   ·show some (decide (k<(x.length:Int)))=_
    rw[dcF h2]
 ·have e1:((decide (o<0)||decide (o≥(S.length:Int)))||decide (k<0))=true:=by
   simp only[Bool.or_eq_true,decide_eq_true_eq];omega
  have e2:((decide (o≥0)&&decide (o<(S.length:Int)))&&decide (k≥0))=false:=by
   simp only[Bool.and_eq_false_iff,decide_eq_false_iff_not];omega
  rw[e1,e2]
  exact .inl ⟨rfl,rfl⟩
theorem uo(o k:Int):∃z,f24 t.insns t.handlers t.objs t.excs N S U o k=some z∧f25 (Mem.mk t S N U) o k=some z:=by
 unfold f24 f25
 rw[kr t hv,bnS,cdF]
 simp only[ak]
 rcases lJ t hv N S U o k with⟨h1,h2⟩|⟨x,v,h1,h2,h3,h4⟩
 ·rw[h1,h2];exact⟨_,rfl,rfl⟩
 ·rw[h3,h4,h1,bnS,bnS,bnS,h2]
  exact⟨_,rfl,rfl⟩
theorem vV(o k v:Int)(hI:I64 v)(hK:KS t.objs S):∃e S',f26 t.insns t.handlers t.objs t.excs N S U o k v=some (e,S')∧f27 (Mem.mk t S N U) o k v=some (Mem.mk t S' N U,e)∧KS t.objs S':=by
 have hrow:=je hK.sh (l8 hv)
 have hob:=hv.objs
 have hlen:=hK.sh.len
 unfold f26 f27
 rw[kr t hv,bnS,cdF]
 simp only[ak]
 rcases lJ t hv N S U o k with⟨h1,h2⟩|⟨x,u,h1,h2,h3,h4⟩
 ·rw[h1,h2];exact⟨_,_,rfl,rfl,hK⟩
 ·have hs:=cR h1
  obtain⟨y,hy,_⟩:=aR (L:=t.objs) (i:=o) oM
  have hset:=o4 hv y (cy hy)
  rw[h3,h4,h1,bnS,bnS,cdF,bnS,h2,bnS,hy,bnS,f63_eq y v hset.1 hset.2 hI,f64_eq (Mem.mk t S N U) o k v y x u hy hset.1 h1 h2 (by show S.length<1000000;omega) (λr hr=>by have:=hrow r hr;omega)]
  cases fits y v
  ·exact⟨_,_,rfl,rfl,hK⟩
  ·simp only[bnS,h2]
   exact⟨_,_,rfl,rfl,hK.set h1 hI⟩
end
theorem th{κ α:Type}{k:κ}{f:κ→α}{b:α}(P:κ→Prop)(hk:P k)(hf:∀k',P k'→f k'=b):letk k f=b:=hf k hk
theorem f21_len(m:Mem)(r:aq)(v:Int)(z:aq×(List Act)×Int)(h:f21 m r v=some z):z.2.1.length≤1:=by
 unfold f21 at h
 revert h
 cases ((!(f31 m.t r))||decide (v<1))||decide (v>m.t.excs)
 ·rw[cdF]
  unfold f57
  cases f60 m.t r v with
  |none=>intro h;cases h
  |some u=>
   rw[bnS]
   cases decide (u.2=0)
   ·intro h
    have:=inS h
    subst this
    exact Nat.zero_le _
   ·intro h
    have:=inS h
    subst this
    exact Nat.le_refl _
 ·intro h
  have:=inS h
  subst this
  exact Nat.zero_le _
theorem f6_l2_eq(t:aj)(hv:VT t)(hn:∀x∈t.insns,I64 x.n)(l2:List mA)(hl2:l2.length≤60)(hst:∀s∈l2,RI s.r.r∧I64 s.v)(r:Int×(List aB)×(List aG)×(List Obj)×Int×(List Int)×(List (List Int))×(List Int))(h1:r.2.1=t.insns)(h2:r.2.2.1=t.handlers)(h3:r.2.2.2.1=t.objs)(h4:r.2.2.2.2.1=t.excs)(k)
  (hk:∀S U N,KS t.objs S→U.length≤1000→N.length≤200→k S U N t.insns t.handlers t.loops t.selects t.lists t.objs t.inits t.excs t.tasks t.prots t.checks S N U=some true):∀(n i:Nat)(z e:Int)(S:List (List Int))(U N:List Int),z=(i:Int)→i≤l2.length→l2.length<n+i→KS t.objs S→(∀v∈N,I64 v)→N.length≤200→U.length≤i→
  f6_l2 l2 r k n e e z S U N t.insns t.handlers t.loops t.selects t.lists t.objs t.inits t.excs t.tasks t.prots t.checks S N U=some true
 |0,i,z,_,_,_,_,_,_,h,_,_,_,_=>oM
 |n+1,i,z,e,S,U,N,hz,hi,h,hK,hN,hNl,hU=>by
  subst hz
  rw[f6_l2]
  by_cases hh:i<l2.length
  ·have hx:=hst _ (List.getElem_mem hh)
   rw[dO hh,cdT,aA hh,bnS]
   generalize l2[i]=x at hx
   refine th (λK=>∀(e:Int)(A:List Act)(S:List (List Int))(U N:List Int)(c7:Nat→Int)(c8 c9 c0:Int),KS t.objs S→(∀v∈N,I64 v)→N.length≤200→U.length≤i+1→A.length≤1000000→K e e A A S U N t.insns t.handlers t.loops t.selects t.lists t.objs t.inits t.excs t.tasks t.prots t.checks S N U c7 c8 c9 c0 c7 c8 c9 c0=some true) (λe A S U N c7 c8 c9 c0 hK hN hNl hU hA=>?_) λK hKK=>?_
   ·simp only[decide_true,Bool.and_true,Bool.not_true,cdF]
    rw[f18_same A oM,bnS,bnS,Bool.not_true,Bool.or_self,cdF,w1 hh oM]
    exact f6_l2_eq t hv hn l2 hl2 hst r h1 h2 h3 h4 k hk n (i+1) _ e S U N rfl oM oM hK hN hNl hU
   ·rw[h1,h2,h3,h4]
    have hrow:=je hK.sh (l8 hv)
    have fin:∀(e:Int)(A:List Act)(c7:Nat→Int)(c8 c9 c0:Int),A.length≤1000000→K e e A A S U N t.insns t.handlers t.loops t.selects t.lists t.objs t.inits t.excs t.tasks t.prots t.checks S N U c7 c8 c9 c0 c7 c8 c9 c0=some true:=λe A c7 c8 c9 c0 hA=>hKK e A S U N c7 c8 c9 c0 hK hN hNl oM hA
    cases decide (Int.tmod x.what 5=0)
    ·rw[cdF]
     cases decide (Int.tmod x.what 5=1)
     ·rw[cdF]
      cases decide (Int.tmod x.what 5=2)
      ·rw[cdF]
       cases decide (Int.tmod x.what 5=3)
       ·rw[cdF]
        obtain⟨c,S',e1,e2,hK'⟩:=vV t hv N S U x.o x.k x.v hx.2 hK
        have e2':f27 (Mem.mk (aj.mk t.insns t.handlers t.loops t.selects t.lists t.objs t.inits t.excs t.tasks t.prots t.checks) S N U) x.o x.k x.v=_:=e2
        rw[e1,e2',bnS,bnS]
        exact hKK c [] S' U N (λ_=>0) 0 0 0 hK' hN hNl oM sM
       ·rw[cdT]
        obtain⟨w,e1,e2⟩:=uo t hv N S U x.o x.k
        have e2':f25 (Mem.mk (aj.mk t.insns t.handlers t.loops t.selects t.lists t.objs t.inits t.excs t.tasks t.prots t.checks) S N U) x.o x.k=_:=e2
        rw[e1,e2',bnS,bnS,dcT rfl,Bool.not_true,cdF]
        exact fin w.2 [] (λ_=>0) 0 0 0 sM
      ·rw[cdT]
       obtain⟨w,e1,e2⟩:=uJ t hv N S U x.r x.v
       have e2':f23 (Mem.mk (aj.mk t.insns t.handlers t.loops t.selects t.lists t.objs t.inits t.excs t.tasks t.prots t.checks) S N U) x.r x.v=_:=e2
       rw[e1,e2',bnS,bnS]
       exact fin w.2 [] w.1.r w.1.pc w.1.exc w.1.defer sM
     ·rw[cdT]
      obtain⟨w,e1,e2⟩:=sZ t hv N S U x.r x.v
      have hw:=f21_len _ _ _ _ e2
      have e2':f21 (Mem.mk (aj.mk t.insns t.handlers t.loops t.selects t.lists t.objs t.inits t.excs t.tasks t.prots t.checks) S N U) x.r x.v=_:=e2
      rw[e1,e2',bnS,bnS]
      exact fin w.2.2 w.2.1 w.1.r w.1.pc w.1.exc w.1.defer oM
    ·rw[cdT]
     have hRx:=hx.1
     cases hxr:x.r with
     |mk R P X D=>
      rw[hxr] at hRx
      have hMV:MV t.insns t.handlers t.objs S:=⟨hv.hdls,hK.sh.len,hv.sz.sets,(mv_of hv).i⟩
      obtain⟨R',A,E,N',S',U',e1,e2⟩:=um t hv R P X D hRx N S U hn hK.sh (λr hr=>by have:=hrow r hr;omega) oM (o4 hv)
      obtain⟨z1,q1,hy1⟩:=f11_sat t.insns t.handlers t.objs t.excs N S U hMV oM (aq.mk R P X D)
      obtain⟨z2,q2,hy⟩:=f11_R t.insns t.handlers t.objs t.excs N S U hMV (by have:=hv.excs;omega) hn hK hN oM (aq.mk R P X D) hRx
      rw[e1] at q1 q2
      obtain rfl:=inS q1
      obtain rfl:=inS q2
      obtain⟨i1,i2,i3⟩:=hy1.io
      dsimp only at i1 i2 i3 hy
      have hp:=vZ A
      have hN':∀v∈N',I64 v:=λv hv'=>hN v (by rw[←i1];exact List.mem_append_right _ hv')
      have hl:(tk A++N').length=N.length:=by rw[i1]
      rw[List.length_append] at hl
      have hU':U'.length≤i+1:=by rw[i2,List.length_append];omega
      have e2':f17 (Mem.mk (aj.mk t.insns t.handlers t.loops t.selects t.lists t.objs t.inits t.excs t.tasks t.prots t.checks) S N U) (aq.mk R P X D)=_:=e2
      rw[e1,e2',bnS,bnS]
      exact hKK E A S' U' N' R'.r R'.pc R'.exc R'.defer hy.2 hN' oM hU' oM
  ·have ei:i=l2.length:=oM
   rw[ei,dq,cdF]
   exact hk _ _ _ hK oM hNl
theorem rK(t:aj)(in1:List Int)(l2:List mA)(hs:Sz t)(ha:SzA t)(hn:SzN t)(hin:∀v∈in1,I64 v)(hst:∀s∈l2,RI s.r.r∧I64 s.v):f6 t in1 l2=some true:=by
 obtain⟨b,hb,_⟩:=f12_sat t
 unfold f6
 obtain⟨F,hF⟩:∃F:Nat,F=9223372036854775808:=⟨_,rfl⟩
 rw[←hF,hb,bnS]
 cases hc:(b||(decide ((List.length l2:Int)>60)))||(decide ((List.length in1:Int)>200))
 ·simp only[Bool.or_eq_false_iff,decide_eq_false_iff_not] at hc
  rw[cdF,bE _ (bC oM (by simp;omega)),f37_eq t hs,bnS,List.nil_append]
  cases hm:MayB t
  ·rw[cdF]
   unfold f10b
   rw[f37_eq t hs,hm,f16_bad t in1 hs ha hm,f9_ok]
   rfl
  ·have hv:=lj hs hm
   rw[cdT,f10o_eq t in1 hs hm oM,bnS,f16_eq t in1 hs ha hm,bnS]
   dsimp only
   rw[show((!decide ((0:Int)=0))||(!(false==(!decide ((0:Int)=0)))))=false from rfl,cdF,show(!decide ((0:Int)=0))=false from rfl,cdF,ak]
   refine f6_l1_eq _ (λL=>?_) F 0 0 in1 rfl (Nat.zero_le _) oM oM
   rw[ak]
   refine f6_l2_eq t hv hn.n l2 oM hst _ rfl rfl rfl rfl _ (λS U N hK hU hN=>?_) F 0 0 0 _ [] in1 rfl (Nat.zero_le _) oM (sP hv hn) hin oM sM
   have hrow:=je hK.sh (l8 hv)
   have hlen:=hK.sh.len
   have hob:=hv.objs
   rw[f28o_eq t.insns t.handlers t.objs t.excs N S U hv.n.1 oM (λr hr=>by have:=hrow r hr;omega),bnS,ak]
   refine f6_l3_eq _ (λL'=>?_) F 0 0 S rfl (Nat.zero_le _) oM oM (λr hr=>by have:=hrow r hr;omega)
   have e:=f19_same t.insns t.handlers t.objs t.excs (Mem.mk t S N U) hv.n.1 (by show S.length<1000000;omega) (λr hr=>by have:=hrow r hr;omega) (by show N.length≤1000000000000;omega) (by show U.length≤1000000000000;omega)
   have e':f19 t.insns t.handlers t.objs t.excs N S U (Mem.mk (aj.mk t.insns t.handlers t.loops t.selects t.lists t.objs t.inits t.excs t.tasks t.prots t.checks) S N U)=some true:=e
   rw[e',bnS,cdT,f9_ok]
   rfl
 ·rw[cdT,f9_ok];rfl
end Go.Proofs.YtkbahggepncliaaGreatDoor
