/- Part of the proof. -/
import Derived.KernelRfl
import Derived.Test.YtpodhdopgcedlaaGreatDoorO
set_option linter.unusedVariables false
set_option linter.unusedSimpArgs false
set_option linter.unusedSectionVars false
set_option linter.unnecessarySimpa false
set_option maxRecDepth 10000
namespace Go.Proofs.YtpodhdopgcedlaaGreatDoor
open Go Go.Sk
theorem w64{x:Int}(h1: -9223372036854775808≤x)(h2:x≤9223372036854775807):IntKind.i64.wrap x=x:=by
 rw[IntKind.wrap_i64];omega
theorem az{α β:Sort _}(k:α)(f:α→β):ak k f=f k:=rfl
theorem br{α:Type}{L:List α}{i:Nat}(h:i<L.length):idx L (i:Int)=some L[i]:=by
 unfold idx
 rw[dcT (Int.natCast_nonneg i)]
 simp[h]
theorem tI{α:Type}{L:List α}{i:Nat}(h:i<L.length):L.drop i=L[i]::L.drop (i+1):=List.drop_eq_getElem_cons h
theorem aX{α:Type}{c:Bool}(o:Option α)(h:c=true):aO c o=o:=by rw[h];rfl
theorem lt_t{i n:Nat}(h:i<n):decide ((i:Int)<(n:Int))=true:=dcT oM
theorem lt_f{n:Nat}:decide ((n:Int)<(n:Int))=false:=dcF oM
theorem w1{i n:Nat}(h:i<n)(hl:n<9223372036854775808):IntKind.i64.wrap ((i:Int)+1)=((i+1:Nat):Int):=by rw[w64 oM oM];push_cast;rfl
theorem sK{α:Type}{n:Nat}{L M:List α}(hn:n≤100)(hl:L.length+M.length≤1000000):bw n L M=true:=by
 unfold bw
 have:(L.length+M.length)*n≤1000000*100:=Nat.mul_le_mul hl hn
 simp only[Bool.and_eq_true,decide_eq_true_eq]
 exact⟨by unfold maxLen;omega,oM⟩
theorem zy{k n:Nat}(hk:k≤100)(hn:n≤1000000):mh k (n:Int)=true:=by
 unfold mh
 have h1:k*n≤100*1000000:=Nat.mul_le_mul hk hn
 have h2:((k*n:Nat):Int)≤((100*1000000:Nat):Int):=by exact_mod_cast h1
 rw[Int.natCast_mul] at h2
 simp only[Bool.and_eq_true,decide_eq_true_eq]
 exact⟨⟨oM,oM⟩,by unfold maxLen;omega⟩
theorem allE{α ρ:Type}(xs:List α)(F:Nat→Int→Option ρ)(k e:Option ρ)(p:α→Bool)(hl:xs.length<9223372036854775808)
  (h0:∀n (i:Nat)(h:i<xs.length),F (n+1) (i:Int)=bif p xs[i] then F n ((i+1:Nat):Int) else e)
  (h1:∀n,F (n+1) (xs.length:Int)=k):∀(n i:Nat),i≤xs.length→xs.length<n+i→F n (i:Int)=bif (xs.drop i).all p then k else e
 |0,i,_,h=>oM
 |n+1,i,hi,h=>by
  by_cases hh:i<xs.length
  ·rw[tI hh,List.all_cons,h0 n i hh,allE xs F k e p hl h0 h1 n (i+1) oM oM]
   cases p xs[i]<;>rfl
  ·have e':i=xs.length:=oM
   subst e'
   rw[h1,List.drop_eq_nil_of_le (Nat.le_refl _)];rfl
theorem allE0{α ρ:Type}(xs:List α)(F:Nat→Int→Option ρ)(k e:Option ρ)(p:α→Bool)(n:Nat)(hn:xs.length<n)(hl:xs.length<9223372036854775808)
  (h0:∀n (i:Nat)(h:i<xs.length),F (n+1) (i:Int)=bif p xs[i] then F n ((i+1:Nat):Int) else e)
  (h1:∀n,F (n+1) (xs.length:Int)=k):F n 0=bif xs.all p then k else e:=by
 have:=allE xs F k e p hl h0 h1 n 0 (Nat.zero_le _) oM
 rwa [List.drop_zero] at this
theorem f36_eq(l:List Int)(n:Int)(hl:l.length<9223372036854775808):f36 l n=some (decide (n∈l)):=by
 unfold f36
 obtain⟨F,hF⟩:∃F:Nat,F=9223372036854775808:=⟨_,rfl⟩
 rw[az,←hF,allE0 l (f36_l1 l n λ_=>some false) (some false) (some true) (λx=> !decide (x=n)) F oM hl (λm i hi=>by
  rw[f36_l1,lt_t hi,cdT,br hi,bnS,w1 hi oM]
  cases decide (l[i]=n)<;>rfl) (λm=>by rw[f36_l1,lt_f,cdF])]
 cases h:l.all λx=> !decide (x=n) with
 |true=>
  rw[cdT,dcF]
  intro hm
  have:=List.all_eq_true.1 h n hm
  simp at this
 |false=>
  rw[cdF,dcT]
  obtain⟨x,hx,hx2⟩:=List.all_eq_false.1 h
  have:x=n:=by simpa using hx2
  subst this;exact hx
theorem jS:∀{A B:List Int},A.Pairwise (·<·)→B.Pairwise (·<·)→(∀z,z∈A↔z∈B)→A=B
 |[],[],_,_,_=>rfl
 |[],y::B,_,_,h=>by have:=(h y).2 sM;simp at this
 |x::A,[],_,_,h=>by have:=(h x).1 sM;simp at this
 |x::A,y::B,hA,hB,h=>by
  rw[List.pairwise_cons] at hA hB
  have hxy:x=y:=by
   have h1:=(h x).1 sM
   have h2:=(h y).2 sM
   rcases List.mem_cons.1 h1 with h1|h1
   ·exact h1
   ·rcases List.mem_cons.1 h2 with h2|h2
    ·exact h2.symm
    ·have:=hA.1 y h2
     have:=hB.1 x h1
     omega
  subst hxy
  rw[jS hA.2 hB.2 λz=>?_]
  constructor
  ·intro hz
   rcases List.mem_cons.1 ((h z).1 (by simp[hz])) with h1|h1
   ·subst h1;have:=hA.1 z hz;omega
   ·exact h1
  ·intro hz
   rcases List.mem_cons.1 ((h z).2 (by simp[hz])) with h1|h1
   ·subst h1;have:=hB.1 z hz;omega
   ·exact h1
theorem lY(d:Array Int):∀(m:Nat)(z:Int),z∈Lib.compactUpTo d m→∃i,i<m∧z=d[i]!
 |0,z,h=>by simp[Lib.compactUpTo] at h
 |m+1,z,h=>by
  rw[Lib.compactUpTo_succ] at h
  rcases List.mem_append.1 h with h|h
  ·obtain⟨i,h1,h2⟩:=lY d m z h
   exact⟨i,oM,h2⟩
  ·split at h
   ·exact⟨m,oM,by simpa using h⟩
   ·simp at h
theorem mi(d:Array Int):∀(m i:Nat),i<m→d[i]!∈Lib.compactUpTo d m
 |0,i,h=>oM
 |m+1,i,h=>by
  rw[Lib.compactUpTo_succ]
  by_cases e:i=m
  ·subst e
   by_cases hk:Lib.keeps d i=true
   ·rw[if_pos hk];exact List.mem_append_right _ List.mem_cons_self
   ·have hk':¬(i=0∨d[i]!≠d[i - 1]!):=λh=>hk (by unfold Lib.keeps;exact dcT h)
    have h0:i≠0:=λh=>hk' (.inl h)
    have h1:d[i]! =d[i - 1]! :=by
     by_cases h:d[i]! =d[i - 1]!
     ·exact h
     ·exact absurd (.inr h) hk'
    rw[h1]
    exact List.mem_append_left _ (mi d i (i - 1) oM)
  ·exact List.mem_append_left _ (mi d m i oM)
theorem o8(d:Array Int)(hs:∀i j,i≤j→j<d.size→d[i]!≤d[j]!):∀(m:Nat),m≤d.size→(Lib.compactUpTo d m).Pairwise (·<·)
 |0,_=>by simp[Lib.compactUpTo]
 |m+1,h=>by
  rw[Lib.compactUpTo_succ]
  have ih:=o8 d hs m oM
  split
  ·rename_i hk
   rw[List.pairwise_append]
   refine⟨ih,sM,λa ha z hz=>?_⟩
   simp only[List.mem_singleton] at hz
   subst hz
   obtain⟨i,hi,rfl⟩:=lY d m a ha
   unfold Lib.keeps at hk
   rcases of_decide_eq_true hk with h0|h0
   ·omega
   ·have h1:=hs i (m - 1) oM oM
    have h2:=hs (m - 1) m oM oM
    omega
  ·simpa using ih
theorem pZ{L:List Int}(h:L.Pairwise (·≤·)):(Lib.compact L).Pairwise (·<·):=by
 refine o8 L.toArray (λi j hij hj=>?_) L.length sM
 have hj':j<L.length:=by simpa using hj
 have e1:L.toArray[i]! =L[i]:=by simp[show i<L.length by omega]
 have e2:L.toArray[j]! =L[j]:=by simp[hj']
 rw[e1,e2]
 rcases Nat.lt_or_eq_of_le hij with h1|h1
 ·exact List.pairwise_iff_getElem.1 h i j oM hj' h1
 ·subst h1;exact Int.le_refl _
theorem pY{L:List Int}{z:Int}:z∈Lib.compact L↔z∈L:=by
 constructor
 ·intro h
  obtain⟨i,hi,rfl⟩:=lY L.toArray L.length z h
  have e:L.toArray[i]! =L[i]:=by simp[hi]
  rw[e];exact List.getElem_mem hi
 ·intro h
  obtain⟨i,hi,rfl⟩:=List.getElem_of_mem h
  have:=mi L.toArray L.length i hi
  have e:L.toArray[i]! =L[i]:=by simp[hi]
  rw[e] at this
  exact this
theorem tn:∀(N:Nat)(p:Nat→Bool),(((List.range N).filter p).map (λn:Nat=>(n:Int))).Pairwise (·<·)
 |N,p=>by
  rw[List.pairwise_map]
  refine List.Pairwise.filter p ?_
  refine List.Pairwise.imp (λh=>?_) List.pairwise_lt_range
  omega
theorem bl{x:Int}(h1: -9223372036854775808≤x)(h2:x≤9223372036854775807):IntKind.i64.wrap x=x:=by
 rw[IntKind.wrap_i64];omega
theorem ap{α β:Sort _}(k:α)(f:α→β):ak k f=f k:=rfl
theorem aw{α:Type}{L:List α}{i:Nat}(h:i<L.length):idx L (i:Int)=some L[i]:=by
 unfold idx
 rw[dcT (Int.natCast_nonneg i)]
 simp[h]
theorem bJ{α:Type}{L:List α}{i:Int}(h:¬(0≤i∧i<L.length)):idx L i=none:=by
 unfold idx
 by_cases h0:0≤i
 ·rw[dcT h0,cdT]
  exact List.getElem?_eq_none oM
 ·rw[dcF h0,cdF]
theorem eF{α:Type}{L:List α}{i:Int}{x:α}(h:idx L i=some x):0≤i∧i<L.length:=⟨ai h,gX h⟩
theorem bd{α:Type}{L:List α}{i:Int}(h:0≤i∧i<L.length):∃x,idx L i=some x∧x∈L:=by
 obtain⟨n,rfl⟩:=Int.eq_ofNat_of_zero_le h.1
 exact⟨_,aw (show n<L.length by omega),List.getElem_mem _⟩
theorem ir{α:Type}{L:List α}{i:Int}{x:α}(h:idx L i=some x):x∈L:=List.mem_of_getElem? (ep h)
theorem aC{α:Type}{L:List α}{i:Nat}(h:i<L.length):L.drop i=L[i]::L.drop (i+1):=List.drop_eq_getElem_cons h
theorem mr{α:Type}{c:Bool}(o:Option α)(h:c=true):aO c o=o:=by rw[h];rfl
theorem eE{κ α:Type}[DecidableEq κ](m:List (κ×α))(k:κ)(v:α)(x:κ):aA (aS m k v) x=if k=x then some v else aA m x:=by
 induction m with
 |nil=>simp[aS,aA]
 |cons p r ih=>
  unfold aS
  by_cases h:p.1=k
  ·rw[if_pos h]
   unfold aA
   by_cases hk:k=x
   ·simp[hk]
   ·simp[hk,h]
  ·rw[if_neg h]
   unfold aA
   rw[ih]
   by_cases hk:p.1=x
   ·have:¬k=x:=λe=>h (by rw[hk,e])
    simp[hk,this]
   ·simp[hk]
def inM{κ:Type}[DecidableEq κ](m:List (κ×Bool))(x:κ):Bool:=Option.getD (aA m x) false
theorem oo{κ:Type}[DecidableEq κ](m:List (κ×Bool))(k x:κ):inM (aS m k true) x=(decide (k=x)||inM m x):=by
 unfold inM
 rw[eE]
 by_cases h:k=x<;>simp[h]
theorem f136_l1_eq(L:List bG)(cb:bG→Option Bool)(p:bG→Bool)(hl:L.length<9223372036854775808):∀(n i:Nat)(z:Int),z=(i:Int)→i≤L.length→L.length<n+i→(∀x∈L.drop i,cb x=some (p x))→∃r,f136_l1 L cb (λ_=>some (-1)) n z=some r∧decide (r≥0)=(L.drop i).any p
 |0,i,z,_,_,h,_=>oM
 |n+1,i,z,hz,hi,h,hp=>by
  subst hz
  rw[f136_l1]
  by_cases hh:i<L.length
  ·rw[aC hh] at hp⊢
   rw[dcT (by omega:(i:Int)<(L.length:Int)),cdT,aw hh,bnS,hp _ List.mem_cons_self,bnS,List.any_cons]
   cases hc:p L[i]
   ·rw[cdF,bl oM oM,Bool.false_or]
    exact f136_l1_eq L cb p hl n (i+1) _ (by push_cast;rfl) oM oM (λx hx=>hp x (List.mem_cons_of_mem _ hx))
   ·exact⟨_,rfl,by rw[Bool.true_or];exact dcT oM⟩
  ·rw[dcF (by omega:¬(i:Int)<(L.length:Int)),cdF,List.drop_eq_nil_of_le oM]
   exact⟨_,rfl,rfl⟩
theorem f136_eq(L:List bG)(cb:bG→Option Bool)(p:bG→Bool)(hl:L.length<9223372036854775808)(hp:∀x∈L,cb x=some (p x)):∃r,f136 L cb=some r∧decide (r≥0)=L.any p:=by
 unfold f136
 rw[ap]
 exact f136_l1_eq L cb p hl _ 0 0 rfl (Nat.zero_le _) oM hp
theorem f99_eq(L:List bG)(cb:bG→Option Bool)(p:bG→Bool)(hl:L.length<9223372036854775808)(hp:∀x∈L,cb x=some (p x)):f99 L cb=some (L.any p):=by
 obtain⟨r,h1,h2⟩:=f136_eq L cb p hl hp
 unfold f99
 rw[h1,bnS,h2]
theorem f129_l1_eq(L:List Int)(cb:Int→Option Bool)(p:Int→Bool)(hl:L.length<9223372036854775808):∀(n i:Nat)(z:Int),z=(i:Int)→i≤L.length→L.length<n+i→(∀x∈L.drop i,cb x=some (p x))→∃r,f129_l1 L cb (λ_=>some (-1)) n z=some r∧decide (r≥0)=(L.drop i).any p
 |0,i,z,_,_,h,_=>oM
 |n+1,i,z,hz,hi,h,hp=>by
  subst hz
  rw[f129_l1]
  by_cases hh:i<L.length
  ·rw[aC hh] at hp⊢
   rw[dcT (by omega:(i:Int)<(L.length:Int)),cdT,aw hh,bnS,hp _ List.mem_cons_self,bnS,List.any_cons]
   cases hc:p L[i]
   ·rw[cdF,bl oM oM,Bool.false_or]
    exact f129_l1_eq L cb p hl n (i+1) _ (by push_cast;rfl) oM oM (λx hx=>hp x (List.mem_cons_of_mem _ hx))
   ·exact⟨_,rfl,by rw[Bool.true_or];exact dcT oM⟩
  ·rw[dcF (by omega:¬(i:Int)<(L.length:Int)),cdF,List.drop_eq_nil_of_le oM]
   exact⟨_,rfl,rfl⟩
theorem f129_eq(L:List Int)(cb:Int→Option Bool)(p:Int→Bool)(hl:L.length<9223372036854775808)(hp:∀x∈L,cb x=some (p x)):∃r,f129 L cb=some r∧decide (r≥0)=L.any p:=by
 unfold f129
 rw[ap]
 exact f129_l1_eq L cb p hl _ 0 0 rfl (Nat.zero_le _) oM hp
theorem f79_eq_m(L:List Int)(cb:Int→Option Bool)(p:Int→Bool)(hl:L.length<9223372036854775808)(hp:∀x∈L,cb x=some (p x)):f79 L cb=some (L.any p):=by
 obtain⟨r,h1,h2⟩:=f129_eq L cb p hl hp
 unfold f79
 rw[h1,bnS,h2]
theorem f109_l1_eq(L:List aR)(cb:aR→Option Bool)(p:aR→Bool)(hl:L.length<9223372036854775808):∀(n i:Nat)(z:Int),z=(i:Int)→i≤L.length→L.length<n+i→(∀x∈L.drop i,cb x=some (p x))→∃r,f109_l1 L cb (λ_=>some (-1)) n z=some r∧decide (r≥0)=(L.drop i).any p
 |0,i,z,_,_,h,_=>oM
 |n+1,i,z,hz,hi,h,hp=>by
  subst hz
  rw[f109_l1]
  by_cases hh:i<L.length
  ·rw[aC hh] at hp⊢
   rw[dcT (by omega:(i:Int)<(L.length:Int)),cdT,aw hh,bnS,hp _ List.mem_cons_self,bnS,List.any_cons]
   cases hc:p L[i]
   ·rw[cdF,bl oM oM,Bool.false_or]
    exact f109_l1_eq L cb p hl n (i+1) _ (by push_cast;rfl) oM oM (λx hx=>hp x (List.mem_cons_of_mem _ hx))
   ·exact⟨_,rfl,by rw[Bool.true_or];exact dcT oM⟩
  ·rw[dcF (by omega:¬(i:Int)<(L.length:Int)),cdF,List.drop_eq_nil_of_le oM]
   exact⟨_,rfl,rfl⟩
theorem f109_eq(L:List aR)(cb:aR→Option Bool)(p:aR→Bool)(hl:L.length<9223372036854775808)(hp:∀x∈L,cb x=some (p x)):∃r,f109 L cb=some r∧decide (r≥0)=L.any p:=by
 unfold f109
 rw[ap]
 exact f109_l1_eq L cb p hl _ 0 0 rfl (Nat.zero_le _) oM hp
theorem f65_eq(L:List aR)(cb:aR→Option Bool)(p:aR→Bool)(hl:L.length<9223372036854775808)(hp:∀x∈L,cb x=some (p x)):f65 L cb=some (L.any p):=by
 obtain⟨r,h1,h2⟩:=f109_eq L cb p hl hp
 unfold f65
 rw[h1,bnS,h2]
def spot(os:List Obj)(o from_ many:Int):Bool:=match idx os o with
 |some x=>decide (0≤from_)&&decide (from_≤IntKind.i64.wrap (x.size - many))
 |none=>false
theorem f96_eq(t:ah)(o f m:Int):f96 ⟨t⟩ o f m=some (spot t.objs o f m):=by
 unfold f96 spot
 by_cases h:0≤o∧o<t.objs.length
 ·obtain⟨x,hx,_⟩:=bd h
  dsimp only
  rw[hx,dcT (show o≥0 from h.1),dcT h.2]
  by_cases hf:0≤f
  ·rw[dcT (show f≥0 from hf)];rfl
  ·rw[dcF (show¬f≥0 from hf)];rfl
 ·dsimp only
  rw[bJ h]
  have:(decide (o≥0)&&decide (o<(t.objs.length:Int)))=false:=by
   rw[Bool.and_eq_false_iff]
   simp only[decide_eq_false_iff_not]
   omega
  rw[this];rfl
theorem jz{os:List Obj}{o f m:Int}(h:spot os o f m=true):∃x,idx os o=some x∧0≤f∧f≤IntKind.i64.wrap (x.size - m):=by
 unfold spot at h
 cases hx:idx os o with
 |none=>rw[hx] at h;cases h
 |some x=>
  rw[hx] at h
  simp only[Bool.and_eq_true,decide_eq_true_eq] at h
  exact⟨x,rfl,h⟩
def fits(o:Obj)(v:Int):Bool:=bif o.ptr then decide (v=0)||o.set_.any (λn=>f135 n v) else decide (v≥o.lo)&&decide (v≤o.hi)
theorem f97_eq(o:Obj)(v:Int)(hl:o.set_.length<9223372036854775808):f97 o v=some (fits o v):=by
 unfold f97 fits
 cases hp:o.ptr
 ·rfl
 ·rw[cdT,cdT]
  by_cases hv:v=0
  ·rw[dcT hv];rfl
  ·rw[dcF hv,f79_eq_m _ _ (λn=>f135 n v) hl λ_ _=>rfl];rfl
def aim(os:List Obj)(x:Int):Bool:=match idx os x with
 |some y=>decide (y.size=1)&& !y.ptr
 |none=>false
def gu(os:List Obj):Int→List Int→Bool
 |_,[]=>true
 |last,x::r=>decide (last<x)&&aim os x&&gu os x r
def d5(os:List Obj)(o:Obj):Bool:=
 !((decide (o.size<1)||decide (o.size>16384))||decide (o.lo>o.hi))&&bif !o.ptr then decide ((o.set_.length:Int)=0) else gu os (-1) o.set_&&(decide (o.lo=0)&&decide (o.hi=0))
theorem f95_l1_eq(t:ah)(o:Obj)(r:Option Bool)(hl:o.set_.length<9223372036854775808):∀(n i:Nat)(z last:Int),z=(i:Int)→i≤o.set_.length→o.set_.length<n+i→-1≤last→
  f95_l1 ⟨t⟩ o (λ_=>r) n last z=bif gu t.objs last (o.set_.drop i) then r else some false
 |0,i,z,last,_,_,h,_=>oM
 |n+1,i,z,last,hz,hi,h,hla=>by
  subst hz
  rw[f95_l1]
  by_cases hh:i<o.set_.length
  ·rw[aC hh,gu]
   rw[dcT (by omega:(i:Int)<(o.set_.length:Int)),cdT,aw hh,bnS]
   generalize o.set_[i]=x
   dsimp only
   by_cases h1:last<x
   ·rw[dcT h1,dcF (show¬x≤last by omega),Bool.false_or,Bool.true_and]
    unfold aim
    by_cases h2:x<t.objs.length
    ·obtain⟨y,hy,_⟩:=bd (L:=t.objs) (i:=x) oM
     rw[dcF (show¬x≥(t.objs.length:Int) by omega),cdF,hy]
     simp only[bnS]
     by_cases h3:y.size=1
     ·rw[dcT h3]
      cases h4:y.ptr
      ·rw[bl oM oM]
       exact f95_l1_eq t o r hl n (i+1) _ x (by push_cast;rfl) oM oM oM
      ·rfl
     ·rw[dcF h3];rfl
    ·rw[bJ oM,dcT (show x≥(t.objs.length:Int) by omega)];rfl
   ·rw[dcF h1,dcT (show x≤last by omega)];rfl
  ·rw[dcF (by omega:¬(i:Int)<(o.set_.length:Int)),cdF,List.drop_eq_nil_of_le oM]
   rfl
theorem f95_eq(t:ah)(o:Obj)(hl:o.set_.length<9223372036854775808):f95 ⟨t⟩ o=some (d5 t.objs o):=by
 unfold f95 d5
 cases h1:(decide (o.size<1)||decide (o.size>16384))||decide (o.lo>o.hi)
 ·rw[cdF,ap,Bool.not_false,Bool.true_and]
  cases h2:o.ptr
  ·rfl
  ·rw[Bool.not_true,cdF,cdF,f95_l1_eq t o _ hl _ 0 0 (-1) rfl (Nat.zero_le _) oM oM,List.drop_zero]
   cases gu t.objs (-1) o.set_<;>rfl
 ·rfl
def nU(n:Int)(L:List Obj):Int:=L.foldl (λn x=>IntKind.i64.wrap (n+x.size)) n
theorem f57_l1_eq(t:ah)(k:Int→Option Bool)(hl:t.objs.length<9223372036854775808)(hs:∀o∈t.objs,o.set_.length<9223372036854775808):∀(n i:Nat)(z a:Int),z=(i:Int)→i≤t.objs.length→t.objs.length<n+i→
  f57_l1 ⟨t⟩ k n a z=bif (t.objs.drop i).all (d5 t.objs) then k (nU a (t.objs.drop i)) else some false
 |0,i,z,a,_,_,h=>oM
 |n+1,i,z,a,hz,hi,h=>by
  subst hz
  rw[f57_l1]
  dsimp only
  by_cases hh:i<t.objs.length
  ·rw[aC hh,List.all_cons,dcT (by omega:(i:Int)<(t.objs.length:Int)),cdT,aw hh,bnS,f95_eq t _ (hs _ (List.getElem_mem _)),bnS,bl (x:=(i:Int)+1) oM oM]
   cases hc:d5 t.objs t.objs[i]
   ·rfl
   ·rw[Bool.not_true,cdF,Bool.true_and,f57_l1_eq t k hl hs n (i+1) _ _ (by push_cast;rfl) oM oM]
    rfl
  ·rw[dcF (by omega:¬(i:Int)<(t.objs.length:Int)),cdF,List.drop_eq_nil_of_le oM]
   rfl
def eN(os:List Obj)(x:ed):Bool:=spot os x.o x.slot 1&&(match idx os x.o with|some y=>fits y x.v|none=>false)
def dx(os:List Obj):List ((Int×Int)×Bool)→List ed→Bool
 |_,[]=>true
 |m,x::r=>(!(inM m (x.o,x.slot)))&&eN os x&&dx os (aS m (x.o,x.slot) true) r
theorem f57_l2_eq(t:ah)(r:Option Bool)(hl:t.inits.length<9223372036854775808)(hs:∀o∈t.objs,o.set_.length<9223372036854775808):∀(n i:Nat)(z:Int)(m:List ((Int×Int)×Bool)),z=(i:Int)→i≤t.inits.length→t.inits.length<n+i→
  f57_l2 ⟨t⟩ (λ_=>r) n z m=bif dx t.objs m (t.inits.drop i) then r else some false
 |0,i,z,m,_,_,h=>oM
 |n+1,i,z,m,hz,hi,h=>by
  subst hz
  rw[f57_l2]
  dsimp only
  by_cases hh:i<t.inits.length
  ·rw[aC hh,dx,dcT (by omega:(i:Int)<(t.inits.length:Int)),cdT,aw hh,bnS]
   generalize t.inits[i]=x
   rw[f96_eq,bl oM oM,f57_l2_eq t r hl hs n (i+1) _ _ (by push_cast;rfl) oM oM]
   show Option.bind (bif inM m (x.o,x.slot) then _ else _) _=_
   cases hm:inM m (x.o,x.slot)
   ·unfold eN
    cases hsp:spot t.objs x.o x.slot 1
    ·rfl
    ·obtain⟨y,hy,_⟩:=jz hsp
     rw[hy]
     simp only[Bool.not_false,Bool.not_true,bnS,cdF,Bool.true_and]
     rw[f97_eq _ _ (hs _ (ir hy))]
     cases fits y x.v<;>rfl
   ·rfl
  ·rw[dcF (by omega:¬(i:Int)<(t.inits.length:Int)),cdF,List.drop_eq_nil_of_le oM]
   rfl
def gO(t:ah):Bool:= !((decide ((t.objs.length:Int)>4096)||decide (t.excs<4))||decide (t.excs>64))&&(t.objs.all (d5 t.objs)&&(dx t.objs [] t.inits&&decide (nU 0 t.objs≤65536)))
theorem f57_eq(t:ah)(hl:t.inits.length<9223372036854775808)(hs:∀o∈t.objs,o.set_.length<9223372036854775808):f57 ⟨t⟩=some (gO t):=by
 unfold f57 gO
 dsimp only
 cases h1:(decide ((t.objs.length:Int)>4096)||decide (t.excs<4))||decide (t.excs>64)
 ·have hol:(t.objs.length:Int)≤4096:=by
   simp only[Bool.or_eq_false_iff,decide_eq_false_iff_not] at h1
   omega
  rw[cdF,ap,f57_l1_eq t _ oM hs _ 0 0 0 rfl (Nat.zero_le _) oM,ap,f57_l2_eq t _ hl hs _ 0 0 [] rfl (Nat.zero_le _) oM]
  simp only[List.drop_zero]
  cases t.objs.all (d5 t.objs)<;>cases dx t.objs [] t.inits<;>rfl
 ·rfl
def at1(t:ah)(a:Int):Bool:=decide (a≥0)&&decide (a<(t.insns.length:Int))
theorem f98_eq(t:ah)(a:Int):f98 ⟨t⟩ a=at1 t a:=rfl
theorem cH{t:ah}{a:Int}:at1 t a=true↔0≤a∧a<(t.insns.length:Int):=by
 unfold at1;simp only[Bool.and_eq_true,decide_eq_true_eq,ge_iff_le]
def qQ(os:List Obj)(x:Int):Bool:=match idx os x with
 |some y=>decide (y.size=1)
 |none=>false
theorem f137_eq(t:ah)(x:Int):f137 x ⟨t⟩=some (!(qQ t.objs x)):=by
 unfold f137 qQ
 dsimp only
 by_cases h:0≤x∧x<t.objs.length
 ·obtain⟨y,hy,_⟩:=bd h
  rw[hy,dcF (show¬x<0 by omega),dcF (show¬x≥(t.objs.length:Int) by omega)]
  rfl
 ·rw[bJ h]
  have:(decide (x<0)||decide (x≥(t.objs.length:Int)))=true:=by
   rw[Bool.or_eq_true]
   simp only[decide_eq_true_eq]
   omega
  rw[this];rfl
def dR(os:List Obj)(l:List Int):Bool:=decide ((l.length:Int)≤8)&&l.all (qQ os)
theorem sL{α:Type}(p:α→Bool)(L:List α):(!(L.any λx=> !(p x)))=L.all p:=by
 induction L with
 |nil=>rfl
 |cons x L ih=>rw[List.any_cons,List.all_cons,←ih,Bool.not_or,Bool.not_not]
theorem f101_eq(t:ah)(l:List Int):f101 ⟨t⟩ l=some (dR t.objs l):=by
 unfold f101 dR
 by_cases h:(l.length:Int)≤8
 ·rw[dcT h,cdT,f79_eq_m l _ (λx=> !(qQ t.objs x)) oM λx _=>f137_eq t x,bnS,sL]
  rfl
 ·rw[dcF h];rfl
def ez(os:List Obj)(e:bG):Bool:=dR os e.ins&&dR os e.outs
theorem f100_eq(t:ah)(e:bG):f100 e ⟨t⟩=some (!(ez t.objs e)):=by
 unfold f100 ez
 rw[f101_eq,f101_eq]
 cases dR t.objs e.ins<;>cases dR t.objs e.outs<;>rfl
def fb(t:ah)(x:fh):Bool:= !(((((decide (x.prio<0)||decide (x.prio>31))||(!(at1 t x.at_)))||decide (x.deadline<0))||decide (x.deadline>2147483647))||decide ((x.entries.length:Int)>8))&&x.entries.all (ez t.objs)
theorem f58_l1_eq(t:ah)(r:Option Bool)(hl:t.tasks.length<9223372036854775808):∀(n i:Nat)(z:Int),z=(i:Int)→i≤t.tasks.length→t.tasks.length<n+i→
  f58_l1 ⟨t⟩ (λ_=>r) n z=bif (t.tasks.drop i).all (fb t) then r else some false
 |0,i,z,_,_,h=>oM
 |n+1,i,z,hz,hi,h=>by
  subst hz
  rw[f58_l1]
  dsimp only
  by_cases hh:i<t.tasks.length
  ·rw[aC hh,List.all_cons,dcT (by omega:(i:Int)<(t.tasks.length:Int)),cdT,aw hh,bnS,f98_eq]
   unfold fb
   generalize t.tasks[i]=x
   cases hc:((((decide (x.prio<0)||decide (x.prio>31))||(!(at1 t x.at_)))||decide (x.deadline<0))||decide (x.deadline>2147483647))||decide ((x.entries.length:Int)>8)
   ·have he:(x.entries.length:Int)≤8:=by
     simp only[Bool.or_eq_false_iff,decide_eq_false_iff_not] at hc
     omega
    rw[cdF,f99_eq x.entries _ (λe=> !(ez t.objs e)) oM λe _=>f100_eq t e,bnS,←sL (ez t.objs),bl oM oM,f58_l1_eq t r hl n (i+1) _ (by push_cast;rfl) oM oM]
    cases x.entries.any λe=> !(ez t.objs e)<;>rfl
   ·rfl
  ·rw[dcF (by omega:¬(i:Int)<(t.tasks.length:Int)),cdF,List.drop_eq_nil_of_le oM]
   rfl
def dJ(t:ah):Bool:= !(decide ((t.tasks.length:Int)<1)||decide ((t.tasks.length:Int)>32))&&t.tasks.all (fb t)
theorem f58_eq(t:ah):f58 ⟨t⟩=some (dJ t):=by
 unfold f58 dJ
 dsimp only
 cases h1:decide ((t.tasks.length:Int)<1)||decide ((t.tasks.length:Int)>32)
 ·have hol:(t.tasks.length:Int)≤32:=by
   simp only[Bool.or_eq_false_iff,decide_eq_false_iff_not] at h1
   omega
  rw[cdF,ap,f58_l1_eq t _ oM _ 0 0 rfl (Nat.zero_le _) oM,List.drop_zero]
  cases t.tasks.all (fb t)<;>rfl
 ·rfl
def fJ(n:Int):List (Int×Bool)→List Int→Bool
 |_,[]=>true
 |m,x::r=>(!((decide (x<1)||decide (x≥n))||inM m x))&&fJ n (aS m x true) r
theorem f59_l2_eq(t:ah)(l:List Int)(r:Option Bool)(hl:l.length<9223372036854775808):∀(n i:Nat)(z:Int)(m:List (Int×Bool)),z=(i:Int)→i≤l.length→l.length<n+i→
  f59_l2 ⟨t⟩ l (λ_=>r) n z m=bif fJ t.tasks.length m (l.drop i) then r else some false
 |0,i,z,m,_,_,h=>oM
 |n+1,i,z,m,hz,hi,h=>by
  subst hz
  rw[f59_l2]
  dsimp only
  by_cases hh:i<l.length
  ·rw[aC hh,fJ,dcT (by omega:(i:Int)<(l.length:Int)),cdT,aw hh,bnS,bl oM oM,f59_l2_eq t l r hl n (i+1) _ _ (by push_cast;rfl) oM oM]
   show(bif (_||inM m l[i]) then _ else _)=_
   cases (decide (l[i]<1)||decide (l[i]≥(t.tasks.length:Int)))||inM m l[i]<;>rfl
  ·rw[dcF (by omega:¬(i:Int)<(l.length:Int)),cdF,List.drop_eq_nil_of_le oM]
   rfl
def jJ(t:ah)(l:List Int):Bool:=fJ t.tasks.length [] l&& !(decide ((l.length:Int)>32))
theorem f59_l1_eq(t:ah)(r:Option Bool)(hl:t.lists.length<9223372036854775808)(hs:∀l∈t.lists,l.length<9223372036854775808):∀(n i:Nat)(z:Int),z=(i:Int)→i≤t.lists.length→t.lists.length<n+i→
  f59_l1 ⟨t⟩ (λ_=>r) n z=bif (t.lists.drop i).all (jJ t) then r else some false
 |0,i,z,_,_,h=>oM
 |n+1,i,z,hz,hi,h=>by
  subst hz
  rw[f59_l1]
  dsimp only
  by_cases hh:i<t.lists.length
  ·rw[aC hh,List.all_cons,dcT (by omega:(i:Int)<(t.lists.length:Int)),cdT,ap,aw hh,bnS,ap]
   have hx:=hs _ (List.getElem_mem hh)
   generalize t.lists[i]=x at hx
   unfold jJ
   rw[f59_l2_eq t x _ hx _ 0 0 [] rfl (Nat.zero_le _) oM,bl oM oM,f59_l1_eq t r hl hs n (i+1) _ (by push_cast;rfl) oM oM,List.drop_zero]
   cases fJ t.tasks.length [] x<;>cases decide ((x.length:Int)>32)<;>rfl
  ·rw[dcF (by omega:¬(i:Int)<(t.lists.length:Int)),cdF,List.drop_eq_nil_of_le oM]
   rfl
def gT(t:ah):Bool:= !(decide ((t.lists.length:Int)>4096))&&t.lists.all (jJ t)
theorem f59_eq(t:ah)(hs:∀l∈t.lists,l.length<9223372036854775808):f59 ⟨t⟩=some (gT t):=by
 unfold f59 gT
 dsimp only
 cases h1:decide ((t.lists.length:Int)>4096)
 ·have hol:(t.lists.length:Int)≤4096:=by
   simp only[decide_eq_false_iff_not] at h1
   omega
  rw[cdF,ap,f59_l1_eq t _ oM hs _ 0 0 rfl (Nat.zero_le _) oM,List.drop_zero]
  cases t.lists.all (jJ t)<;>rfl
 ·rfl
def fA(t:ah)(obj:Int)(a:jq):Bool:=
 at1 t a.at_&&(decide (a.guard= -1)||spot t.objs obj a.guard 1)&&
 bif decide (a.kind=1) then(decide (a.entry≥0)&&decide (a.entry<8))&&decide (a.time=0)
 else bif decide (a.kind=2)||decide (a.kind=3) then decide (a.entry=0)&&spot t.objs obj a.time 1
 else decide (a.kind=4)&&decide ((IntKind.i64.wrap (BitVec.ofInt IntKind.i64.bits a.entry|||BitVec.ofInt IntKind.i64.bits a.time).toNat)=0)
theorem f142_eq(t:ah)(n o:Int):f142 n ⟨t⟩ o=some (spot t.objs o n 1):=by
 unfold f142
 rw[f96_eq];rfl
theorem f105_eq(t:ah)(o:Int)(a:jq):f105 ⟨t⟩ o a=some (fA t o a):=by
 unfold f105 fA
 rw[f98_eq,f142_eq,f142_eq]
 simp only[ap,bnS]
 cases at1 t a.at_
 ·rfl
 ·cases decide (a.guard= -1)
  ·cases spot t.objs o a.guard 1
   ·rfl
   ·cases decide (a.kind=1)
    ·cases decide (a.kind=2)<;>cases decide (a.kind=3)<;>cases decide (a.entry=0)<;>rfl
    ·rfl
  ·cases decide (a.kind=1)
   ·cases decide (a.kind=2)<;>cases decide (a.kind=3)<;>cases decide (a.entry=0)<;>rfl
   ·rfl
theorem f61_l2_eq(t:ah)(x:cg)(k:Int→Option Bool)(a b:Option Bool)(ha:∀i:Int,0≤i→k i=a)(hl:x.alts.length<9223372036854775808):∀(n i:Nat)(z:Int),z=(i:Int)→i≤x.alts.length→x.alts.length<n+i→
  f61_l2 ⟨t⟩ x k (λ_=>b) n z=bif (x.alts.drop i).all (fA t x.obj) then b else a
 |0,i,z,_,_,h=>oM
 |n+1,i,z,hz,hi,h=>by
  subst hz
  rw[f61_l2]
  by_cases hh:i<x.alts.length
  ·rw[aC hh,List.all_cons,dcT (by omega:(i:Int)<(x.alts.length:Int)),cdT,aw hh,bnS,ap,f105_eq,bnS]
   cases fA t x.obj x.alts[i]
   ·exact ha _ oM
   ·dsimp only
    rw[Bool.not_true,cdF,bl oM oM,f61_l2_eq t x k a b ha hl n (i+1) _ (by push_cast;rfl) oM oM,Bool.true_and]
  ·rw[dcF (by omega:¬(i:Int)<(x.alts.length:Int)),cdF,List.drop_eq_nil_of_le oM]
   rfl
def fu(t:ah)(x:cg):Bool:= !((((decide ((x.alts.length:Int)<1)||decide ((x.alts.length:Int)>16))||decide (x.obj<0))||decide (x.obj≥(t.objs.length:Int)))||((!decide (x.else_= -1))&&(!(at1 t x.else_))))&&x.alts.all (fA t x.obj)
theorem f61_l1_eq(t:ah)(r:Option Bool)(hl:t.selects.length<9223372036854775808):∀(n i:Nat)(z:Int),z=(i:Int)→i≤t.selects.length→t.selects.length<n+i→
  f61_l1 ⟨t⟩ (λ_=>r) n z=bif (t.selects.drop i).all (fu t) then r else some false
 |0,i,z,_,_,h=>oM
 |n+1,i,z,hz,hi,h=>by
  subst hz
  rw[f61_l1]
  dsimp only
  by_cases hh:i<t.selects.length
  ·rw[aC hh,List.all_cons,dcT (by omega:(i:Int)<(t.selects.length:Int)),cdT,aw hh,bnS,f98_eq]
   generalize t.selects[i]=x
   unfold fu
   cases hc:(((decide ((x.alts.length:Int)<1)||decide ((x.alts.length:Int)>16))||decide (x.obj<0))||decide (x.obj≥(t.objs.length:Int)))||((!decide (x.else_= -1))&&(!(at1 t x.else_)))
   ·have he:(x.alts.length:Int)≤16:=by
     simp only[Bool.or_eq_false_iff,decide_eq_false_iff_not] at hc
     omega
    simp only[ap]
    rw[cdF,f61_l2_eq t x _ (some false) _ (λi h=>by rw[dcT (show i≥0 from h)];rfl) oM _ 0 0 rfl (Nat.zero_le _) oM,List.drop_zero,bl oM oM,f61_l1_eq t r hl n (i+1) _ (by push_cast;rfl) oM oM]
    cases x.alts.all (fA t x.obj)<;>rfl
   ·rfl
  ·rw[dcF (by omega:¬(i:Int)<(t.selects.length:Int)),cdF,List.drop_eq_nil_of_le oM]
   rfl
def iG(t:ah):Bool:= !(decide ((t.selects.length:Int)>1024))&&t.selects.all (fu t)
theorem f61_eq(t:ah):f61 ⟨t⟩=some (iG t):=by
 unfold f61 iG
 dsimp only
 cases h1:decide ((t.selects.length:Int)>1024)
 ·have hol:(t.selects.length:Int)≤1024:=by
   simp only[decide_eq_false_iff_not] at h1
   omega
  rw[cdF,ap,f61_l1_eq t _ oM _ 0 0 rfl (Nat.zero_le _) oM,List.drop_zero]
  cases t.selects.all (fu t)<;>rfl
 ·rfl
def jg(h g:aQ):Bool:= !((!(decide (g.from_≥h.from_)&&decide (g.to≤h.to)))&&decide ((if h.from_>g.from_ then h.from_ else g.from_)<(if h.to<g.to then h.to else g.to)))
theorem pm{α:Type}(L:List α)(i:Nat):cR L 0 (i:Int)=L.take i:=by simp[cR]
theorem f62_l2_eq(t:ah)(j:Nat)(h0:aQ)(r:Option Bool)(hj:j≤t.handlers.length)(hl:t.handlers.length<9223372036854775808):∀(n i:Nat)(z:Int),z=(i:Int)→i≤j→j<n+i→
  f62_l2 ⟨t⟩ (j:Int) (λ_ _ _ _=>r) h0 n z=bif ((t.handlers.take j).drop i).all (jg h0) then r else some false
 |0,i,z,_,_,h=>oM
 |n+1,i,z,hz,hi,h=>by
  subst hz
  have hL:(t.handlers.take j).length=j:=by rw[List.length_take];omega
  rw[f62_l2]
  dsimp only
  rw[pm]
  by_cases hh:i<(t.handlers.take j).length
  ·rw[aC hh,List.all_cons,dcT (by omega:(i:Int)<((t.handlers.take j).length:Int)),cdT,aw hh,bnS,bl oM oM,f62_l2_eq t j h0 r hj hl n (i+1) _ (by push_cast;rfl) oM oM]
   generalize(t.handlers.take j)[i]=g
   unfold jg
   cases (!(decide (g.from_≥h0.from_)&&decide (g.to≤h0.to)))&&decide ((if h0.from_>g.from_ then h0.from_ else g.from_)<(if h0.to<g.to then h0.to else g.to))<;>rfl
  ·rw[dcF (by omega:¬(i:Int)<((t.handlers.take j).length:Int)),cdF,List.drop_eq_nil_of_le oM]
   rfl
def dQ(t:ah)(x:aQ):Bool:=((((decide (x.from_<0))||(decide (x.from_≥x.to)))||(decide (x.to>(t.insns.length:Int))))||(!(at1 t x.at_)))||(f106 x x.at_)
def fd(t:ah):List aQ→List aQ→Bool
 |_,[]=>true
 |P,x::r=>(!(dQ t x))&&P.all (jg x)&&fd t (P++ [x]) r
theorem f62_l1_eq(t:ah)(r:Option Bool)(hl:t.handlers.length<9223372036854775808):∀(n i:Nat)(z:Int),z=(i:Int)→i≤t.handlers.length→t.handlers.length<n+i→
  f62_l1 ⟨t⟩ (λ_=>r) n z=bif fd t (t.handlers.take i) (t.handlers.drop i) then r else some false
 |0,i,z,_,_,h=>oM
 |n+1,i,z,hz,hi,h=>by
  subst hz
  rw[f62_l1]
  dsimp only
  by_cases hh:i<t.handlers.length
  ·have hL:(t.handlers.take i).length=i:=by rw[List.length_take];omega
   rw[aC hh,fd,←List.take_succ_eq_append_getElem hh,dcT (by omega:(i:Int)<(t.handlers.length:Int)),cdT,ap,aw hh,bnS,f98_eq,mr _ (by simp[bT];omega),pm,bl oM oM,f62_l2_eq t i _ _ oM hl _ 0 0 rfl (Nat.zero_le _) oM,f62_l1_eq t r hl n (i+1) _ (by push_cast;rfl) oM oM,List.drop_zero]
   generalize t.handlers[i]=x
   show(bif dQ t x then _ else _)=_
   cases dQ t x<;>cases (t.handlers.take i).all (jg x)<;>rfl
  ·rw[dcF (by omega:¬(i:Int)<(t.handlers.length:Int)),cdF,List.drop_eq_nil_of_le oM]
   rfl
def iK(t:ah):Bool:= !(decide ((t.handlers.length:Int)>4096))&&fd t [] t.handlers
theorem f62_eq(t:ah):f62 ⟨t⟩=some (iK t):=by
 unfold f62 iK
 dsimp only
 cases h1:decide ((t.handlers.length:Int)>4096)
 ·have hol:(t.handlers.length:Int)≤4096:=by
   simp only[decide_eq_false_iff_not] at h1
   omega
  rw[cdF,ap,f62_l1_eq t _ oM _ 0 0 rfl (Nat.zero_le _) oM,List.drop_zero,List.take_zero]
  cases fd t [] t.handlers<;>rfl
 ·rfl
def qV(t:ah)(x:Loop):Bool:=(!((decide (x.head<0)||decide (x.head>x.back))||(!(at1 t x.back))))&&(match idx t.insns x.back with|some y=>f107 y x.head|none=>false)&& !(decide (x.bound<0)||decide (x.bound>2147483647))
def gS(t:ah):List (Int×Bool)→List Loop→Bool
 |_,[]=>true
 |m,x::r=>(!(inM m x.back))&&qV t x&&gS t (aS m x.back true) r
theorem f63_l1_eq(t:ah)(r:Option Bool)(hl:t.loops.length<9223372036854775808):∀(n i:Nat)(z:Int)(m:List (Int×Bool)),z=(i:Int)→i≤t.loops.length→t.loops.length<n+i→
  f63_l1 ⟨t⟩ (λ_=>r) n z m=bif gS t m (t.loops.drop i) then r else some false
 |0,i,z,m,_,_,h=>oM
 |n+1,i,z,m,hz,hi,h=>by
  subst hz
  rw[f63_l1]
  dsimp only
  by_cases hh:i<t.loops.length
  ·rw[aC hh,gS,dcT (by omega:(i:Int)<(t.loops.length:Int)),cdT,aw hh,bnS,f98_eq,bl oM oM,f63_l1_eq t r hl n (i+1) _ _ (by push_cast;rfl) oM oM]
   generalize t.loops[i]=x
   unfold qV
   show Option.bind (bif (_||inM m x.back) then _ else _) _=_
   cases h1:(decide (x.head<0)||decide (x.head>x.back))||(!(at1 t x.back))
   ·cases inM m x.back
    ·have h2:at1 t x.back=true:=by
      cases h:at1 t x.back
      ·rw[h] at h1;simp at h1
      ·rfl
     obtain⟨y,hy,_⟩:=bd (cH.1 h2)
     rw[hy]
     simp only[bnS,Bool.or_self,cdF,Bool.not_false,Bool.true_and,Bool.or_assoc]
     cases f107 y x.head<;>cases (decide (x.bound<0)||decide (x.bound>2147483647))<;>rfl
    ·rfl
   ·cases inM m x.back<;>rfl
  ·rw[dcF (by omega:¬(i:Int)<(t.loops.length:Int)),cdF,List.drop_eq_nil_of_le oM]
   rfl
def pC(t:ah):Bool:= !(decide ((t.loops.length:Int)>4096))&&gS t [] t.loops
theorem f63_eq(t:ah):f63 ⟨t⟩=some (pC t):=by
 unfold f63 pC
 dsimp only
 cases h1:decide ((t.loops.length:Int)>4096)
 ·have hol:(t.loops.length:Int)≤4096:=by
   simp only[decide_eq_false_iff_not] at h1
   omega
  rw[cdF,ap,f63_l1_eq t _ oM _ 0 0 [] rfl (Nat.zero_le _) oM,List.drop_zero]
  cases gS t [] t.loops<;>rfl
 ·rfl
def chk(t:ah)(a:Int):Bool:=match idx t.insns a with
 |some x=>decide (x.op=27)||decide (x.op=28)
 |none=>false
theorem f108_eq(t:ah)(a:Int):f108 ⟨t⟩ a=some (chk t a):=by
 unfold f108 chk
 rw[f98_eq]
 dsimp only
 cases h:at1 t a
 ·rw[bJ (λhh=>by rw[cH.2 hh] at h;cases h)];rfl
 ·obtain⟨y,hy,_⟩:=bd (cH.1 h)
  rw[hy]
  dsimp only[bnS,cdT]
  cases decide (y.op=27)<;>rfl
def gw(t:ah):Int→List d6→Bool
 |_,[]=>true
 |last,x::r=>((decide (last<x.at_)&&chk t x.at_)&& !(decide (x.kind<1)||decide (x.kind>5)))&&gw t x.at_ r
theorem f64_l1_eq(t:ah)(r:Option Bool)(hl:t.checks.length<9223372036854775808):∀(n i:Nat)(z last:Int),z=(i:Int)→i≤t.checks.length→t.checks.length<n+i→
  f64_l1 ⟨t⟩ (λ_=>r) n last z=bif gw t last (t.checks.drop i) then r else some false
 |0,i,z,last,_,_,h=>oM
 |n+1,i,z,last,hz,hi,h=>by
  subst hz
  rw[f64_l1]
  dsimp only
  by_cases hh:i<t.checks.length
  ·rw[aC hh,gw,dcT (by omega:(i:Int)<(t.checks.length:Int)),cdT,aw hh,bnS,f108_eq,bl oM oM,f64_l1_eq t r hl n (i+1) _ _ (by push_cast;rfl) oM oM]
   generalize t.checks[i]=x
   by_cases h1:last<x.at_
   ·rw[dcT h1,dcF (show¬x.at_≤last by omega)]
    cases chk t x.at_<;>cases decide (x.kind<1)<;>cases decide (x.kind>5)<;>rfl
   ·rw[dcF h1,dcT (show x.at_≤last by omega)];rfl
  ·rw[dcF (by omega:¬(i:Int)<(t.checks.length:Int)),cdF,List.drop_eq_nil_of_le oM]
   rfl
theorem f64_eq(t:ah)(hl:t.checks.length<9223372036854775808):f64 ⟨t⟩=some (gw t (-1) t.checks):=by
 unfold f64
 dsimp only
 rw[ap,f64_l1_eq t _ hl _ 0 0 (-1) rfl (Nat.zero_le _) oM,List.drop_zero]
 cases gw t (-1) t.checks<;>rfl
def bI(os:List Obj)(ent:Int)(e:aL):Bool×Int×Int×Int×Int×Int:=
 bif decide (e.kind=1) then(true,0,0,e.n,0,0) else
 bif decide (e.kind=2) then(bif spot os e.o e.off 1&&(match idx os e.o with|some y=> !y.ptr|none=>false) then(true,0,0,0,e.o,e.off) else(false,0,0,0,0,0)) else
 bif decide (e.kind=14) then(decide (e.n≥0)&&decide (e.n<ent),0,0,e.n,0,0) else
 bif decide (e.kind=4) then(true,1,18,0,0,0) else
 bif decide (e.kind=5) then(true,2,(if(if 15<e.op then 15 else e.op)>7 then(if 15<e.op then 15 else e.op) else 7),0,0,0) else
 bif decide (e.kind=6)||decide (e.kind=7) then(true,2,0,0,0,0) else(false,0,0,0,0,0)
def dK(os:List Obj)(ent:Int)(e:aL):Bool:=
 ((((((((!(bI os ent e).1)||(!decide ((List.length e.l:Int)=(bI os ent e).2.1)))||(!decide (e.op=(bI os ent e).2.2.1)))||(!decide (e.n=(bI os ent e).2.2.2.1)))||(!decide (e.o=(bI os ent e).2.2.2.2.1)))||(!decide (e.off=(bI os ent e).2.2.2.2.2)))||(!decide (e.len=0)))||(!decide (e.lo=0)))||(!decide (e.hi=0))
def exL(rec:Int→aL→Bool×Int):List aL→Int→Bool×Int
 |[],l=>(true,l)
 |e::r,l=>bif (rec l e).1 then exL rec r (rec l e).2 else(false,(rec l e).2)
def exF(os:List Obj)(ent:Int):Nat→Int→Int→aL→Bool×Int
 |0,_,left,_=>(false,left)
 |n+1,deep,left,e=>
  bif (decide (IntKind.i64.wrap (left - 1)<0)||decide (deep>64))||dK os ent e then(false,IntKind.i64.wrap (left - 1))
  else exL (exF os ent n (deep+1)) e.l (IntKind.i64.wrap (left - 1))
theorem qA(os:List Obj)(ent:Int)(e:aL):(bI os ent e).2.1≤2:=by
 unfold bI
 cases decide (e.kind=1)<;>cases decide (e.kind=2)<;>cases decide (e.kind=14)<;>cases decide (e.kind=4)<;>cases decide (e.kind=5)<;>cases (decide (e.kind=6)||decide (e.kind=7))<;>simp<;>cases (spot os e.o e.off 1&&(match idx os e.o with|some y=> !y.ptr|none=>false))<;>simp
abbrev Rt:Type:=Bool×(List aR)×(List aQ)×(List Loop)×(List cg)×(List (List Int))×(List Obj)×(List ed)×Int×(List fh)×(List eR)×(List d6)×Int×Int
abbrev Re:Type:=(List aR)→(List aQ)→(List Loop)→(List cg)→(List (List Int))→(List Obj)→(List ed)→Int→(List fh)→(List eR)→(List d6)→Int→Int→aL→Int→Option Rt
section
variable(v0:List aR)(v1:List aQ)(v2:List Loop)(v3:List cg)(v4:List (List Int))(v5:List Obj)(v6:List ed)(v7:Int)(v8:List fh)(v9:List eR)(v10:List d6)(ent:Int)
def n7(z:Bool×Int):Option Rt:=some (z.1,v0,v1,v2,v3,v4,v5,v6,v7,v8,v9,v10,ent,z.2)
theorem f102s_l1_eq(rec:Re)(g:Int→aL→Bool×Int)(e:aL)(deep:Int)
  (hrec:∀l x,rec v0 v1 v2 v3 v4 v5 v6 v7 v8 v9 v10 ent l x (IntKind.i64.wrap (deep+1))=n7 v0 v1 v2 v3 v4 v5 v6 v7 v8 v9 v10 ent (g l x))
  (ka:Int→(List aR)→(List aQ)→(List Loop)→(List cg)→(List (List Int))→(List Obj)→(List ed)→Int→(List fh)→(List eR)→(List d6)→Int→Int→Option Rt)
  (kb:(List aR)→(List aQ)→(List Loop)→(List cg)→(List (List Int))→(List Obj)→(List ed)→Int→(List fh)→(List eR)→(List d6)→Int→Int→Option Rt)
  (ha:∀(i:Int) l,0≤i→ka i v0 v1 v2 v3 v4 v5 v6 v7 v8 v9 v10 ent l=n7 v0 v1 v2 v3 v4 v5 v6 v7 v8 v9 v10 ent (false,l))
  (hb:∀l,kb v0 v1 v2 v3 v4 v5 v6 v7 v8 v9 v10 ent l=n7 v0 v1 v2 v3 v4 v5 v6 v7 v8 v9 v10 ent (true,l))
  (hl:e.l.length<9223372036854775808):∀(n i:Nat)(z l:Int),z=(i:Int)→i≤e.l.length→e.l.length<n+i→
  f102s_l1 rec e deep ka kb n z v0 v1 v2 v3 v4 v5 v6 v7 v8 v9 v10 ent l=n7 v0 v1 v2 v3 v4 v5 v6 v7 v8 v9 v10 ent (exL g (e.l.drop i) l)
 |0,i,z,l,_,_,h=>oM
 |n+1,i,z,l,hz,hi,h=>by
  subst hz
  rw[f102s_l1]
  by_cases hh:i<e.l.length
  ·rw[aC hh,exL,dcT (by omega:(i:Int)<(e.l.length:Int)),cdT,aw hh,bnS,ap,hrec]
   unfold n7
   dsimp only[bnS]
   cases (g l e.l[i]).1
   ·exact ha _ _ oM
   ·rw[Bool.not_true,cdF,bl oM oM]
    exact f102s_l1_eq rec g e deep hrec ka kb ha hb hl n (i+1) _ _ (by push_cast;rfl) oM oM
  ·rw[dcF (by omega:¬(i:Int)<(e.l.length:Int)),cdF,List.drop_eq_nil_of_le oM]
   exact hb _
theorem f102s_eq(rec:Re)(g:Int→aL→Bool×Int)(e:aL)(deep left:Int)
  (hrec:deep≤64→∀l x,rec v0 v1 v2 v3 v4 v5 v6 v7 v8 v9 v10 ent l x (IntKind.i64.wrap (deep+1))=n7 v0 v1 v2 v3 v4 v5 v6 v7 v8 v9 v10 ent (g l x)):∀z,f102s rec v0 v1 v2 v3 v4 v5 v6 v7 v8 v9 v10 ent left e deep=z→
  z=n7 v0 v1 v2 v3 v4 v5 v6 v7 v8 v9 v10 ent (bif (decide (IntKind.i64.wrap (left - 1)<0)||decide (deep>64))||dK v5 ent e then(false,IntKind.i64.wrap (left - 1)) else exL g e.l (IntKind.i64.wrap (left - 1))):=by
 intro z h
 unfold f102s at h
 obtain⟨K,hK,h⟩:=ay h
 have h':K (bI v5 ent e).1 (bI v5 ent e).2.1 (aL.mk e.kind (bI v5 ent e).2.2.1 (bI v5 ent e).2.2.2.1 (bI v5 ent e).2.2.2.2.1 (bI v5 ent e).2.2.2.2.2 0 0 0 []) (bI v5 ent e).2.2.1 (bI v5 ent e).2.2.2.1 (bI v5 ent e).2.2.2.2.1 (bI v5 ent e).2.2.2.2.2=z:=by
  rw[←h,ap]
  unfold bI
  cases decide (e.kind=1)
  ·cases decide (e.kind=2)
   ·cases decide (e.kind=14)
    ·cases decide (e.kind=4)
     ·cases decide (e.kind=5)
      ·cases decide (e.kind=6)<;>cases decide (e.kind=7)<;>rfl
      ·rfl
     ·rfl
    ·cases decide (e.n≥0)<;>rfl
   ·rw[f96_eq]
    dsimp only[bnS,cdT,cdF]
    cases hs:spot v5 e.o e.off 1
    ·rfl
    ·obtain⟨y,hy,_⟩:=jz hs
     rw[hy]
     dsimp only[bnS,cdT,cdF]
     cases y.ptr<;>rfl
  ·rfl
 clear h
 rw[hK] at h'
 dsimp only at h'
 have hc:=qA v5 ent e
 have e1:(((((((((((decide (IntKind.i64.wrap (left - 1)<0))||(decide (deep>64)))||(!(bI v5 ent e).1))||(!decide ((List.length e.l:Int)=(bI v5 ent e).2.1)))||(!decide (e.op=(bI v5 ent e).2.2.1)))||(!decide (e.n=(bI v5 ent e).2.2.2.1)))||(!decide (e.o=(bI v5 ent e).2.2.2.2.1)))||(!decide (e.off=(bI v5 ent e).2.2.2.2.2)))||(!decide (e.len=0)))||(!decide (e.lo=0)))||(!decide (e.hi=0)))=((decide (IntKind.i64.wrap (left - 1)<0)||decide (deep>64))||dK v5 ent e):=by
  unfold dK
  simp only[Bool.or_assoc]
 rw[e1] at h'
 cases hbad:(decide (IntKind.i64.wrap (left - 1)<0)||decide (deep>64))||dK v5 ent e
 ·rw[hbad,cdF] at h'
  have hd:deep≤64:=by
   simp only[Bool.or_eq_false_iff,decide_eq_false_iff_not] at hbad
   omega
  have hlen:e.l.length≤2:=by
   simp only[Bool.or_eq_false_iff] at hbad
   have:=hbad.2
   unfold dK at this
   simp only[Bool.or_eq_false_iff,Bool.not_eq_false',decide_eq_true_eq] at this
   have:=this.1.1.1.1.1.1.1.2
   omega
  simp only[ap] at h'
  rw[f102s_l1_eq v0 v1 v2 v3 v4 v5 v6 v7 v8 v9 v10 ent rec g e deep (hrec hd) _ _ (λi l h0=>by rw[dcT (show i≥0 from h0)];rfl) (λl=>rfl) oM _ 0 0 _ rfl (Nat.zero_le _) oM,List.drop_zero] at h'
  rw[←h',cdF]
 ·rw[hbad,cdT] at h'
  rw[←h',cdT]
  rfl
theorem f102_eq:∀(n:Nat)(deep left:Int)(e:aL),1≤deep→deep≤65→66<n+deep→f102 n v0 v1 v2 v3 v4 v5 v6 v7 v8 v9 v10 ent left e deep=n7 v0 v1 v2 v3 v4 v5 v6 v7 v8 v9 v10 ent (exF v5 ent n deep left e)
 |0,deep,left,e,h0,h1,h2=>oM
 |n+1,deep,left,e,h0,h1,h2=>by
  rw[f102,exF]
  exact f102s_eq v0 v1 v2 v3 v4 v5 v6 v7 v8 v9 v10 ent (f102 n) (exF v5 ent n (deep+1)) e deep left (λhd l x=>by
   rw[bl oM oM]
   exact f102_eq n (deep+1) l x oM oM oM) _ rfl
end
def k9(t:ah)(ent:Int)(e:aL):Bool:=(exF t.objs ent 66 1 256 e).1
theorem f60_l2_eq(t:ah)(x:eR)(r:Option Bool)(hl:x.barriers.length<9223372036854775808):∀(n i:Nat)(z:Int),z=(i:Int)→i≤x.barriers.length→x.barriers.length<n+i→
  f60_l2 ⟨t⟩ (λ_ _=>r) x n z=bif (x.barriers.drop i).all (k9 t x.barriers.length) then r else some false
 |0,i,z,_,_,h=>oM
 |n+1,i,z,hz,hi,h=>by
  subst hz
  rw[f60_l2]
  dsimp only
  by_cases hh:i<x.barriers.length
  ·rw[aC hh,List.all_cons,dcT (by omega:(i:Int)<(x.barriers.length:Int)),cdT,aw hh,bnS,f102_eq _ _ _ _ _ _ _ _ _ _ _ _ 66 1 256 _ oM oM oM,bl oM oM,f60_l2_eq t x r hl n (i+1) _ (by push_cast;rfl) oM oM]
   unfold n7 k9
   dsimp only[bnS]
   cases (exF t.objs x.barriers.length 66 1 256 x.barriers[i]).1<;>rfl
  ·rw[dcF (by omega:¬(i:Int)<(x.barriers.length:Int)),cdF,List.drop_eq_nil_of_le oM]
   rfl
def gc(t:ah)(x:eR):Bool:= !((decide (x.ceiling<0)||decide (x.ceiling>31))||decide ((x.barriers.length:Int)>8))&&x.barriers.all (k9 t x.barriers.length)
theorem f60_l1_eq(t:ah)(r:Option Bool)(hl:t.prots.length<9223372036854775808):∀(n i:Nat)(z:Int),z=(i:Int)→i≤t.prots.length→t.prots.length<n+i→
  f60_l1 ⟨t⟩ (λ_=>r) n z=bif (t.prots.drop i).all (gc t) then r else some false
 |0,i,z,_,_,h=>oM
 |n+1,i,z,hz,hi,h=>by
  subst hz
  rw[f60_l1]
  dsimp only
  by_cases hh:i<t.prots.length
  ·rw[aC hh,List.all_cons,dcT (by omega:(i:Int)<(t.prots.length:Int)),cdT,ap,aw hh,bnS]
   generalize t.prots[i]=x
   unfold gc
   cases hc:(decide (x.ceiling<0)||decide (x.ceiling>31))||decide ((x.barriers.length:Int)>8)
   ·have he:(x.barriers.length:Int)≤8:=by
     simp only[Bool.or_eq_false_iff,decide_eq_false_iff_not] at hc
     omega
    rw[cdF,f60_l2_eq t x _ oM _ 0 0 rfl (Nat.zero_le _) oM,bl oM oM,f60_l1_eq t r hl n (i+1) _ (by push_cast;rfl) oM oM,List.drop_zero]
    cases x.barriers.all (k9 t x.barriers.length)<;>rfl
   ·rfl
  ·rw[dcF (by omega:¬(i:Int)<(t.prots.length:Int)),cdF,List.drop_eq_nil_of_le oM]
   rfl
def gL(t:ah):Bool:=t.prots.all (gc t)&&decide ((t.prots.length:Int)≤32)
theorem f60_eq(t:ah)(hl:t.prots.length<9223372036854775808):f60 ⟨t⟩=some (gL t):=by
 unfold f60 gL
 dsimp only
 rw[ap,f60_l1_eq t _ hl _ 0 0 rfl (Nat.zero_le _) oM,List.drop_zero]
 cases t.prots.all (gc t)<;>rfl
def prs(o:Int):Option (List ByteArray):=(f143 o).bind λr=>f154 r.1.fields
def ch(s:ByteArray):Int×Int:=((fm s 0).getD 0,(fm s 1).getD 0)
def lk(o:Int):List (Int×Int):=((prs o).getD []).map ch
theorem zk:∀k,k<57→(match prs ((k:Nat)+1:Int) with|some l=>Nat.blt l.length 100&&l.all λs=>(fm s 0).isSome&&(fm s 1).isSome|none=>false)=true:=by decide+kernel
theorem f143_ok:∀k,k<57→(match f143 ((k:Nat)+1:Int) with|some r=>r.2|none=>false)=true:=by decide+kernel
theorem f143_eq{o:Int}(h1:1≤o)(h2:o≤57):∃r,f143 o=some (r,true):=by
 obtain⟨k,rfl⟩:∃k:Nat,o=(k:Int)+1:=⟨(o - 1).toNat,oM⟩
 have:=f143_ok k oM
 cases h:f143 ((k:Int)+1) with
 |none=>rw[h] at this;cases this
 |some r=>rw[h] at this;exact⟨r.1,by dsimp only at this;rw[←this]⟩
theorem zl{o:Int}(h1:1≤o)(h2:o≤57):∃l,prs o=some l∧l.length<100∧∀s∈l,(∃c,fm s 0=some c)∧∃c,fm s 1=some c:=by
 obtain⟨k,rfl⟩:∃k:Nat,o=(k:Int)+1:=⟨(o - 1).toNat,oM⟩
 have:=zk k oM
 cases h:prs ((k:Int)+1) with
 |none=>rw[h] at this;cases this
 |some l=>
  rw[h] at this
  rw[Bool.and_eq_true] at this
  refine⟨l,rfl,by simpa using this.1,λs hs=>?_⟩
  have:=List.all_eq_true.1 this.2 s hs
  rw[Bool.and_eq_true] at this
  exact⟨Option.isSome_iff_exists.1 this.1,Option.isSome_iff_exists.1 this.2⟩
def rng(w v:Int):Bool:= !(decide (v<(f157 w).1)||decide (v>(f157 w).2))
def fl:List (Int×Int)→Int→Int→Int→Int→Int→Int→Bool
 |[],d,a,b,n,m,to=>(decide (d=0))&&((decide (a=0))&&((decide (b=0))&&((decide (n=0))&&((decide (m=0))&&((decide (to=0))&&true)))))
 |(c,w)::r,d,a,b,n,m,to=>
  bif decide (c=68) then rng w d&&fl r 0 a b n m to else
  bif decide (c=65) then rng w a&&fl r d 0 b n m to else
  bif decide (c=66) then rng w b&&fl r d a 0 n m to else
  bif decide (c=78) then rng w n&&fl r d a b 0 m to else
  bif decide (c=77) then rng w m&&fl r d a b n 0 to else rng w to&&fl r d a b n m 0
theorem f110_l1_eq(k1 k2 k3 k4 k5 k6:Int→Int→Int→Int→Int→Int→ByteArray→ByteArray→Int→Int→Int→Int→Option Bool)
  (h1:∀a b c d e f g h i j k l,k1 a b c d e f g h i j k l=some false)(h2:∀a b c d e f g h i j k l,k2 a b c d e f g h i j k l=some false)(h3:∀a b c d e f g h i j k l,k3 a b c d e f g h i j k l=some false)
  (h4:∀a b c d e f g h i j k l,k4 a b c d e f g h i j k l=some false)(h5:∀a b c d e f g h i j k l,k5 a b c d e f g h i j k l=some false)(h6:∀a b c d e f g h i j k l,k6 a b c d e f g h i j k l=some false)
  (k7:Int→Int→Int→Int→Int→Int→ByteArray→ByteArray→Option Bool)(h7:∀d a b n m to x y,k7 d a b n m to x y=some (fl [] d a b n m to))(r:ic×Bool)(L:List ByteArray)(hL:∀s∈L,(∃c,fm s 0=some c)∧∃c,fm s 1=some c)(hl:L.length<9223372036854775808):
  ∀(n i:Nat)(z d a b vn m to:Int),z=(i:Int)→i≤L.length→L.length<n+i→f110_l1 k1 k2 k3 k4 k5 k6 k7 r L n z d a b vn m to=some (fl ((L.drop i).map ch) d a b vn m to)
 |0,i,z,_,_,_,_,_,_,_,_,h=>oM
 |n+1,i,z,d,a,b,vn,m,to,hz,hi,h=>by
  subst hz
  rw[f110_l1]
  by_cases hh:i<L.length
  ·obtain⟨⟨c,hc⟩,w,hw⟩:=hL _ (List.getElem_mem hh)
   have ih:=λd a b vn m to=>f110_l1_eq k1 k2 k3 k4 k5 k6 h1 h2 h3 h4 h5 h6 k7 h7 r L hL hl n (i+1) _ d a b vn m to (by push_cast;rfl) oM oM
   have he:ch L[i]=(c,w):=by unfold ch;rw[hc,hw];rfl
   rw[aC hh,List.map_cons,he,fl,dcT (by omega:(i:Int)<(L.length:Int)),cdT,aw hh,bnS,hc,bnS,bl oM oM]
   simp only[ap,hw,bnS,h1,h2,h3,h4,h5,h6,ih]
   unfold rng
   cases decide (c=68)
   ·cases decide (c=65)
    ·cases decide (c=66)
     ·cases decide (c=78)
      ·cases decide (c=77)
       ·cases (decide (to<(f157 w).1)||decide (to>(f157 w).2))<;>rfl
       ·cases (decide (m<(f157 w).1)||decide (m>(f157 w).2))<;>rfl
      ·cases (decide (vn<(f157 w).1)||decide (vn>(f157 w).2))<;>rfl
     ·cases (decide (b<(f157 w).1)||decide (b>(f157 w).2))<;>rfl
    ·cases (decide (a<(f157 w).1)||decide (a>(f157 w).2))<;>rfl
   ·cases (decide (d<(f157 w).1)||decide (d>(f157 w).2))<;>rfl
  ·rw[dcF (by omega:¬(i:Int)<(L.length:Int)),cdF,List.drop_eq_nil_of_le oM,h7]
   rfl
def gW(x:aR):Bool:= !((!(decide (1≤x.op)&&decide (x.op≤57)))||(decide (x.op=27)&&decide (x.n>x.m)))&&(!((decide (x.op=37)&&decide ((IntKind.u8.wrap x.n)=6))&&(!decide (x.m=0)))&&fl (lk x.op) x.d x.a x.b x.n x.m x.to)
theorem f110_eq(x:aR)(ho:0≤x.op∧x.op≤255):f110 x=some (gW x):=by
 unfold f110 gW
 by_cases h:1≤x.op∧x.op≤57
 ·obtain⟨r,hr⟩:=f143_eq h.1 h.2
  obtain⟨l,hl,hlen,hg⟩:=zl h.1 h.2
  have hf:f154 r.fields=some l:=by
   unfold prs at hl
   rw[hr,bnS] at hl
   exact hl
  rw[hr,bnS,dcT h.1,dcT h.2]
  dsimp only
  rw[Bool.not_true,Bool.false_or,Bool.and_true,Bool.not_true,Bool.false_or]
  cases decide (x.op=27)&&decide (x.n>x.m)
  ·rw[cdF]
   cases (decide (x.op=37)&&decide ((IntKind.u8.wrap x.n)=6))&&(!decide (x.m=0))
   ·rw[cdF]
    simp only[ap]
    rw[bnS,hf,bnS]
    refine(f110_l1_eq _ _ _ _ _ _ (λ_ _ _ _ _ _ _ _ _ _ _ _=>rfl) (λ_ _ _ _ _ _ _ _ _ _ _ _=>rfl) (λ_ _ _ _ _ _ _ _ _ _ _ _=>rfl) (λ_ _ _ _ _ _ _ _ _ _ _ _=>rfl) (λ_ _ _ _ _ _ _ _ _ _ _ _=>rfl) (λ_ _ _ _ _ _ _ _ _ _ _ _=>rfl) _ (by intro d a b n m to _ _;rfl) _ l hg oM _ 0 0 _ _ _ _ _ _ rfl (Nat.zero_le _) oM).trans ?_
    rw[List.drop_zero]
    unfold lk
    rw[hl]
    rfl
   ·rfl
  ·rfl
 ·have e:f143 x.op=some ((ic.mk ByteArray.empty ByteArray.empty),false):=by
   unfold f143
   have:(decide (x.op<1)||decide ((IntKind.i64.wrap x.op)>57))=true:=by
    rw[bl oM oM,Bool.or_eq_true]
    simp only[decide_eq_true_eq]
    omega
   rw[this];rfl
  have e2:(decide (1≤x.op)&&decide (x.op≤57))=false:=by
   rw[Bool.and_eq_false_iff]
   simp only[decide_eq_false_iff_not]
   omega
  rw[e,e2];rfl
def mD(t:ah)(task n:Int):Int×Bool:=match idx t.tasks task with
 |some x=>(match idx x.entries n with
  |some e=>((IntKind.i64.wrap ((IntKind.i64.wrap ((List.length e.ins:Int)+(List.length e.outs:Int)))+1)),true)
  |none=>(0,false))
 |none=>(0,false)
theorem f112_eq(t:ah)(a n:Int):f112 ⟨t⟩ a n=some (mD t a n):=by
 unfold f112 mD
 dsimp only
 by_cases h:0≤a∧a<t.tasks.length
 ·obtain⟨y,hy,_⟩:=bd h
  rw[hy,dcF (show¬a<0 by omega),dcF (show¬a≥(t.tasks.length:Int) by omega)]
  dsimp only[bnS]
  by_cases h2:0≤n∧n<y.entries.length
  ·obtain⟨e,he,_⟩:=bd h2
   rw[he,dcF (show¬n<0 by omega),dcF (show¬n≥(y.entries.length:Int) by omega)]
   rfl
  ·rw[bJ h2]
   by_cases h3:n<0
   ·rw[dcT h3];rfl
   ·rw[dcT (show n≥(y.entries.length:Int) by omega),dcF h3];rfl
 ·rw[bJ h]
  have:(decide (a<0)||decide (a≥(t.tasks.length:Int)))=true:=by
   rw[Bool.or_eq_true]
   simp only[decide_eq_true_eq]
   omega
  rw[this];rfl
def tD(t:ah)(p n:Int):Bool:=match idx t.prots p with
 |some x=>decide (0≤n)&&decide (n<(x.barriers.length:Int))
 |none=>false
theorem f113_eq(t:ah)(p n:Int):f113 ⟨t⟩ p n=some (tD t p n):=by
 unfold f113 tD
 dsimp only
 by_cases h:0≤p∧p<t.prots.length
 ·obtain⟨y,hy,_⟩:=bd h
  rw[hy,dcT (show p≥0 by omega),dcT h.2]
  by_cases h3:0≤n
  ·rw[dcT (show n≥0 from h3)];rfl
  ·rw[dcF (show¬n≥0 from h3)];rfl
 ·rw[bJ h]
  have:(decide (p≥0)&&decide (p<(t.prots.length:Int)))=false:=by
   rw[Bool.and_eq_false_iff]
   simp only[decide_eq_false_iff_not]
   omega
  rw[this];rfl
def zH(t:ah)(x:aR):Bool:=decide ((IntKind.i64.wrap (x.to+x.m))≤(t.insns.length:Int))&&(cR t.insns x.to (IntKind.i64.wrap (x.to+x.m))).all (λy=>decide (y.op=29))
def eY(t:ah)(x:aR):Bool:=gW x&&
 bif decide (x.op=3)||decide (x.op=4) then spot t.objs x.n x.m 1 else
 bif decide (x.op=5)||decide (x.op=6) then spot t.objs x.n x.m x.b else
 bif decide (x.op=29)||(decide (x.op=30)||decide (x.op=31)) then at1 t x.to else
 bif decide (x.op=32) then zH t x else
 bif decide (x.op=33) then decide (x.n≤t.excs) else
 bif decide (x.op=44)||(decide (x.op=45)||(decide (x.op=46)||decide (x.op=56))) then decide (x.n<(t.lists.length:Int)) else
 bif decide (x.op=50) then decide (x.n<(t.selects.length:Int)) else
 bif decide (x.op=49) then(mD t x.a x.b).2&&spot t.objs x.n 0 (mD t x.a x.b).1 else
 bif decide (x.op=52) then(mD t x.a x.b).2&&decide (x.to<(t.insns.length:Int)) else
 bif decide (x.op=53)||decide (x.op=55) then decide (x.n<(t.prots.length:Int)) else
 bif decide (x.op=54) then tD t x.n x.m else
 bif decide (x.op=43) then decide (x.m<0)||tD t x.m x.n else true
theorem Ac:lk 32=[(65,114),(78,118),(77,108),(84,115)]:=by decide+kernel
theorem kz{x:aR}(h:gW x=true)(ho:x.op=32):0≤x.to∧x.to≤65535∧1≤x.m∧x.m≤65536:=by
 unfold gW at h
 rw[ho,Ac] at h
 simp only[Bool.and_eq_true] at h
 have:=h.2.2
 simp only[fl,rng,f157] at this
 simp at this
 omega
theorem xw(L:List aR)(hl:L.length<9223372036854775808):f65 L (λz0=>some (f111 z0))=some (!(L.all λy=>decide (y.op=29))):=by
 rw[f65_eq L _ f111 hl λ_ _=>rfl]
 congr 1
 induction L with
 |nil=>rfl
 |cons x L ih=>rw[List.any_cons,List.all_cons,ih (by simp at hl;omega),Bool.not_and];rfl
theorem f67_eq(t:ah)(x:aR)(ho:0≤x.op∧x.op≤255)(hl:t.insns.length≤65536):f67 ⟨t⟩ x=some (eY t x):=by
 unfold f67 eY
 rw[f110_eq x ho,bnS]
 cases hm:gW x
 ·rfl
 ·simp only[ap,f96_eq,f98_eq,f112_eq,f113_eq,bnS]
  rw[Bool.not_true,cdF,Bool.true_and]
  cases decide (x.op=3)
  ·cases decide (x.op=4)
   ·cases decide (x.op=5)
    ·cases decide (x.op=6)
     ·cases decide (x.op=29)
      ·cases decide (x.op=30)
       ·cases decide (x.op=31)
        ·cases h32:decide (x.op=32)
         ·cases decide (x.op=33)
          ·cases decide (x.op=44)
           ·cases decide (x.op=45)
            ·cases decide (x.op=46)
             ·cases decide (x.op=56)
              ·cases decide (x.op=50)
               ·cases decide (x.op=49)
                ·cases decide (x.op=52)
                 ·cases decide (x.op=53)
                  ·cases decide (x.op=55)
                   ·cases decide (x.op=54)
                    ·cases decide (x.op=43)
                     ·rfl
                     ·cases decide (x.m<0)<;>rfl
                    ·rfl
                   ·rfl
                  ·rfl
                 ·rfl
                ·cases (mD t x.a x.b).2<;>rfl
               ·rfl
              ·rfl
             ·rfl
            ·rfl
           ·rfl
          ·rfl
         ·obtain⟨a1,a2,a3,a4⟩:=kz hm (of_decide_eq_true h32)
          unfold zH
          dsimp only[cdT,cdF,Bool.or_false]
          by_cases h4:(IntKind.i64.wrap (x.to+x.m))≤(t.insns.length:Int)
          ·rw[dcT h4,cdT]
           rw[bl oM oM] at h4
           rw[bl oM oM,mr _ (by simp[bT];omega),xw _ (by simp[cR];omega),bnS,Bool.not_not]
           rfl
          ·rw[dcF h4];rfl
        ·rfl
       ·rfl
      ·rfl
     ·rfl
    ·rfl
   ·rfl
  ·rfl
structure Sz(t:ah):Prop where
 ops:∀x∈t.insns,0≤x.op∧x.op≤255
 inits:t.inits.length<9223372036854775808
 sets:∀o∈t.objs,o.set_.length<9223372036854775808
 lists:∀l∈t.lists,l.length<9223372036854775808
 prots:t.prots.length<9223372036854775808
 checks:t.checks.length<9223372036854775808
theorem f31_l1_eq(t:ah)(k:Int→Option Bool)(a b:Option Bool)(ha:∀i:Int,0≤i→k i=a)(ho:∀x∈t.insns,0≤x.op∧x.op≤255)(hl:t.insns.length≤65536):∀(n i:Nat)(z:Int),z=(i:Int)→i≤t.insns.length→t.insns.length<n+i→
  f31_l1 t k (λ_=>b) n z=bif (t.insns.drop i).all (eY t) then b else a
 |0,i,z,_,_,h=>oM
 |n+1,i,z,hz,hi,h=>by
  subst hz
  rw[f31_l1]
  by_cases hh:i<t.insns.length
  ·rw[aC hh,List.all_cons,dcT (by omega:(i:Int)<(t.insns.length:Int)),cdT,aw hh,bnS,ap,f67_eq t _ (ho _ (List.getElem_mem hh)) hl,bnS]
   cases eY t t.insns[i]
   ·exact ha _ oM
   ·dsimp only
    rw[Bool.not_true,cdF,bl oM oM,f31_l1_eq t k a b ha ho hl n (i+1) _ (by push_cast;rfl) oM oM,Bool.true_and]
  ·rw[dcF (by omega:¬(i:Int)<(t.insns.length:Int)),cdF,List.drop_eq_nil_of_le oM]
   rfl
def oe(x:aR):Bool:=decide (x.op=29)||(decide (x.op=33)||(decide (x.op=34)||decide (x.op=57)))
def rX(t:ah):Bool:=match idx t.insns ((t.insns.length:Int) - 1) with
 |some x=>oe x
 |none=>false
def MayB(t:ah):Bool:= !(decide ((t.insns.length:Int)<1)||decide ((t.insns.length:Int)>65536))&&(rX t&&(gO t&&(dJ t&&(gT t&&(gL t&&(iG t&&(iK t&&(pC t&&(gw t (-1) t.checks&&t.insns.all (eY t))))))))))
theorem f31_eq(t:ah)(h:Sz t):f31 t=some (MayB t):=by
 unfold f31 MayB
 cases h1:decide ((t.insns.length:Int)<1)||decide ((t.insns.length:Int)>65536)
 ·have hol:(1:Int)≤t.insns.length∧(t.insns.length:Int)≤65536:=by
   simp only[Bool.or_eq_false_iff,decide_eq_false_iff_not] at h1
   omega
  obtain⟨x,hx,_⟩:=bd (L:=t.insns) (i:=(t.insns.length:Int) - 1) oM
  unfold rX
  rw[cdF,bl oM oM,hx,bnS]
  simp only[ap]
  rw[f57_eq t h.inits h.sets,f58_eq,f59_eq t h.lists,f60_eq t h.prots,f61_eq,f62_eq,f63_eq,f64_eq t h.checks]
  rw[f31_l1_eq t _ (some false) _ (λi h0=>by rw[dcT (show i≥0 from h0)];rfl) h.ops oM _ 0 0 rfl (Nat.zero_le _) oM,List.drop_zero]
  unfold oe
  generalize gO t=b1,dJ t=b2,gT t=b3,gL t=b4,iG t=b5,iK t=b6,pC t=b7,gw t (-1) t.checks=b8,t.insns.all (eY t)=b9
  have key:∀b:Bool,(bif b then(some b1).bind λr69=>bif !r69 then some false else(some b2).bind λr70=>bif !r70 then some false else(some b3).bind λr71=>bif !r71 then some false else(some b4).bind λr72=>bif !r72 then some false else(some b5).bind λr73=>bif !r73 then some false else(some b6).bind λr74=>bif !r74 then some false else(some b7).bind λr75=>bif !r75 then some false else(some b8).bind λr76=>bif !r76 then some false else bif b9 then some (!decide ((-1:Int)≥0)) else some false else some false)=some (b&&(b1&&(b2&&(b3&&(b4&&(b5&&(b6&&(b7&&(b8&&b9))))))))):=by
   intro b
   cases b
   ·rfl
   ·cases b1
    ·rfl
    ·cases b2
     ·rfl
     ·cases b3
      ·rfl
      ·cases b4
       ·rfl
       ·cases b5
        ·rfl
        ·cases b6
         ·rfl
         ·cases b7
          ·rfl
          ·cases b8
           ·rfl
           ·cases b9<;>rfl
  cases decide (x.op=29)
  ·cases decide (x.op=33)
   ·cases decide (x.op=34)
    ·exact key _
    ·exact key true
   ·exact key true
  ·exact key true
 ·rfl
structure VT(t:ah):Prop where
 sz:Sz t
 n:1≤t.insns.length∧t.insns.length≤65536
 objs:t.objs.length≤4096
 excs:4≤t.excs∧t.excs≤64
 obj:∀o∈t.objs,d5 t.objs o=true
 inits:dx t.objs [] t.inits=true
 hdls:t.handlers.length≤4096
 fits:∀x∈t.insns,eY t x=true
 last:rX t=true
 hok:fd t [] t.handlers=true
theorem xZ{t:ah}(hs:Sz t)(h:MayB t=true):VT t:=by
 unfold MayB gO iK at h
 simp only[Bool.and_eq_true,Bool.not_eq_true',Bool.or_eq_false_iff,decide_eq_false_iff_not,List.all_eq_true] at h
 exact⟨hs,oM,oM,oM,h.2.2.1.2.1,h.2.2.1.2.2.1,oM,h.2.2.2.2.2.2.2.2.2.2,h.2.1,h.2.2.2.2.2.2.2.1.2⟩
theorem nf{os:List Obj}:∀(L:List Int)(last:Int),gu os last L=true→-1≤last→last<os.length→(L.length:Int)+last+1≤os.length
 |[],last,_,h1,h2=>by simp;omega
 |x::r,last,h,h1,h2=>by
  simp only[gu,Bool.and_eq_true,decide_eq_true_eq] at h
  have hx:x<os.length:=by
   have:=h.1.2
   unfold aim at this
   cases hi:idx os x with
   |none=>rw[hi] at this;cases this
   |some y=>exact(eF hi).2
  have:=nf r x h.2 oM hx
  simp;omega
theorem wE{os:List Obj}{o:Obj}(h:d5 os o=true)(hn:0<os.length):1≤o.size∧o.size≤16384∧o.lo≤o.hi∧(o.set_.length:Int)≤os.length:=by
 unfold d5 at h
 simp only[Bool.and_eq_true,Bool.not_eq_true',Bool.or_eq_false_iff,decide_eq_false_iff_not] at h
 refine⟨oM,oM,oM,?_⟩
 cases hp:o.ptr
 ·have h2:=h.2
  rw[hp] at h2
  simp only[Bool.not_false,cdT,decide_eq_true_eq] at h2
  omega
 ·have h2:=h.2
  rw[hp] at h2
  simp only[Bool.not_true,cdF,Bool.and_eq_true] at h2
  have:=nf _ _ h2.1 oM oM
  omega
theorem VT.o{t:ah}(h:VT t){o:Obj}(ho:o∈t.objs):1≤o.size∧o.size≤16384∧o.lo≤o.hi∧(o.set_.length:Int)≤4096:=by
 have h2:=h.objs
 have:=wE (h.obj o ho) (List.length_pos_of_mem ho)
 omega
theorem f86_l1_eq(o:Obj)(v:Int)(r:Option Bool)(hl:o.set_.length<9223372036854775808):∀(n i:Nat)(z:Int),z=(i:Int)→i≤o.set_.length→o.set_.length<n+i→
  f86_l1 o v (λ_=>r) n z=bif (o.set_.drop i).any (λx=>f135 x v) then some true else r
 |0,i,z,_,_,h=>oM
 |n+1,i,z,hz,hi,h=>by
  subst hz
  rw[f86_l1]
  by_cases hh:i<o.set_.length
  ·rw[aC hh,List.any_cons,dcT (by omega:(i:Int)<(o.set_.length:Int)),cdT,aw hh,bnS,bl (x:=(i:Int)+1) oM oM,f86_l1_eq o v r hl n (i+1) _ (by push_cast;rfl) oM oM]
   have e:f135 o.set_[i] v=decide (v=IntKind.i64.wrap (o.set_[i]+1)):=by
    unfold f135
    by_cases hv:v=IntKind.i64.wrap (o.set_[i]+1)
    ·rw[dcT hv,dcT hv.symm]
    ·rw[dcF hv,dcF λh=>hv h.symm]
   rw[e]
   cases decide (v=IntKind.i64.wrap (o.set_[i]+1))<;>rfl
  ·rw[dcF (by omega:¬(i:Int)<(o.set_.length:Int)),cdF,List.drop_eq_nil_of_le oM]
   rfl
theorem f86_eq(o:Obj)(v:Int)(hl:o.set_.length<9223372036854775808):f86 o v=some (fits o v):=by
 unfold f86 fits
 cases o.ptr
 ·rfl
 ·rw[Bool.not_true,cdF,cdT,ap,f86_l1_eq o v _ hl _ 0 0 rfl (Nat.zero_le _) oM,List.drop_zero]
  cases o.set_.any (λn=>f135 n v)<;>cases decide (v=0)<;>rfl
def qH(os:List Obj)(L:List Int):Nat→List Int→Bool
 |_,[]=>true
 |i,x::r=>(decide (0≤x)&&aim os x&&(bif Nat.beq i 0 then true else decide ((L[i - 1]?).getD 0<x)))&&qH os L (i+1) r
theorem vS{os:List Obj}{x:Int}:aim os x=true→0≤x∧x<os.length:=λh=>by
 unfold aim at h
 cases hx:idx os x with
 |none=>rw[hx] at h;cases h
 |some y=>exact eF hx
theorem ww(os:List Obj)(L:List Int):∀(i:Nat),i≤L.length→qH os L i (L.drop i)=gu os (if i=0 then -1 else(L[i - 1]?).getD 0) (L.drop i)∨∃j,j<i∧(L[j]?).getD 0<0:=by
 intro i hi
 generalize hk:L.length - i=k
 induction k generalizing i with
 |zero=>
  left
  rw[List.drop_eq_nil_of_le oM];rfl
 |succ k ih=>
  have hh:i<L.length:=oM
  rw[aC hh]
  have hg:(L[i]?).getD 0=L[i]:=by rw[geG hh];rfl
  rcases ih (i+1) oM oM with h|⟨j,hj,hn⟩
  ·left
   rw[if_neg oM,Nat.add_sub_cancel,hg] at h
   unfold qH gu
   rw[h]
   by_cases h0:i=0
   ·subst h0
    rw[if_pos rfl]
    show((decide ((0:Int)≤L[0])&&aim os L[0]&&true)&&_)=_
    by_cases hx:(0:Int)≤L[0]
    ·rw[dcT hx,dcT (show(-1:Int)<L[0] by omega),Bool.and_true]
    ·rw[dcF hx,dcF (show¬(-1:Int)<L[0] by omega)];rfl
   ·rw[if_neg h0]
    have hb:Nat.beq i 0=false:=by
     cases i with
     |zero=>exact absurd rfl h0
     |succ i=>rfl
    rw[hb,cdF]
    by_cases ha:aim os L[i]=true
    ·have:=vS ha
     rw[ha,dcT this.1]
     cases decide ((L[i - 1]?).getD 0<L[i])<;>rfl
    ·have ha:aim os L[i]=false:=by simpa using ha
     rw[ha];simp
  ·by_cases hji:j=i
   ·subst hji
    left
    rw[hg] at hn
    unfold qH gu
    rw[dcF (show¬0≤L[j] by omega)]
    have ha:aim os L[j]=false:=by
     cases ha:aim os L[j]
     ·rfl
     ·have:=vS ha;omega
    rw[ha];simp
   ·exact .inr ⟨j,oM,hn⟩
theorem f84_l1_eq(t:ah)(o:Obj)(r:Option Bool)(hl:o.set_.length<9223372036854775808):∀(n i:Nat)(z:Int),z=(i:Int)→i≤o.set_.length→o.set_.length<n+i→
  f84_l1 t o (λ_=>r) n z=bif qH t.objs o.set_ i (o.set_.drop i) then r else some false
 |0,i,z,_,_,h=>oM
 |n+1,i,z,hz,hi,h=>by
  subst hz
  rw[f84_l1]
  by_cases hh:i<o.set_.length
  ·rw[aC hh,qH,dcT (by omega:(i:Int)<(o.set_.length:Int)),cdT,aw hh,bnS,bl (x:=(i:Int)+1) oM oM,f84_l1_eq t o r hl n (i+1) _ (by push_cast;rfl) oM oM]
   have hprev:i≠0→idx o.set_ (IntKind.i64.wrap ((i:Int) - 1))=some ((o.set_[i - 1]?).getD 0):=λh0=>by
    rw[bl oM oM,show(i:Int) - 1=((i - 1:Nat):Int) by omega,aw oM,geG oM];rfl
   generalize hx:o.set_[i]=x
   unfold aim
   by_cases h1:0≤x∧x<t.objs.length
   ·obtain⟨y,hy,_⟩:=bd h1
    rw[dcF (show¬x<0 by omega),dcF (show¬x≥(t.objs.length:Int) by omega),dcT h1.1,hy]
    simp only[Bool.or_self,cdF,bnS]
    by_cases h2:y.size=1
    ·rw[dcT h2]
     cases h3:y.ptr
     ·simp only[Bool.not_true,Bool.not_false,cdF,bnS,Bool.and_self,Bool.true_and]
      by_cases h0:i=0
      ·subst h0;rfl
      ·rw[dcT (by omega:(i:Int)>0),cdT,hprev h0]
       have hb:Nat.beq i 0=false:=by
        cases i with
        |zero=>exact absurd rfl h0
        |succ i=>rfl
       rw[hb,cdF]
       simp only[bnS]
       by_cases h4:(o.set_[i - 1]?).getD 0<x
       ·rw[dcT h4,dcF oM];rfl
       ·rw[dcF h4,dcT oM];rfl
     ·rfl
    ·rw[dcF h2];rfl
   ·rw[bJ h1]
    have:(decide (x<0)||decide (x≥(t.objs.length:Int)))=true:=by
     rw[Bool.or_eq_true];simp only[decide_eq_true_eq];omega
    rw[this];simp
  ·rw[dcF (by omega:¬(i:Int)<(o.set_.length:Int)),cdF,List.drop_eq_nil_of_le oM]
   rfl
theorem f84_eq(t:ah)(o:Obj)(hl:o.set_.length<9223372036854775808):f84 t o=some (d5 t.objs o):=by
 unfold f84 d5
 rw[ap,f84_l1_eq t o _ hl _ 0 0 rfl (Nat.zero_le _) oM,List.drop_zero]
 have hs:qH t.objs o.set_ 0 o.set_=gu t.objs (-1) o.set_:=by
  rcases ww t.objs o.set_ 0 (Nat.zero_le _) with h|⟨j,hj,_⟩
  ·simpa using h
  ·omega
 rw[hs]
 cases (decide (o.size<1)||decide (o.size>16384))||decide (o.lo>o.hi)
 ·cases o.ptr
  ·by_cases h0:(o.set_.length:Int)=0
   ·rw[dcT h0,dcF (show¬(o.set_.length:Int)>0 by omega)]
    have:o.set_=[]:=List.length_eq_zero_iff.1 oM
    rw[this];rfl
   ·rw[dcF h0,dcT (show(o.set_.length:Int)>0 by omega)];rfl
  ·cases decide (o.lo=0)<;>cases decide (o.hi=0)<;>cases gu t.objs (-1) o.set_<;>cases decide ((o.set_.length:Int)>0)<;>rfl
 ·rfl
theorem f85_eq(t:ah)(o f m:Int)(hm:0≤m):f85 t o f m=some (spot t.objs o f m):=by
 unfold f85 spot
 by_cases h:0≤o∧o<t.objs.length
 ·obtain⟨x,hx,_⟩:=bd h
  rw[hx,dcT (show o≥0 from h.1),dcT h.2,dcT (show m≥0 from hm)]
  by_cases hf:0≤f
  ·rw[dcT (show f≥0 from hf)];rfl
  ·rw[dcF (show¬f≥0 from hf)];rfl
 ·rw[bJ h]
  have:(decide (o≥0)&&decide (o<(t.objs.length:Int)))=false:=by
   rw[Bool.and_eq_false_iff]
   simp only[decide_eq_false_iff_not]
   omega
  rw[this];rfl
theorem f50_l1_eq(t:ah)(k:Int→Option Bool)(hl:t.objs.length<9223372036854775808)(hs:∀o∈t.objs,o.set_.length<9223372036854775808):∀(n i:Nat)(z a:Int),z=(i:Int)→i≤t.objs.length→t.objs.length<n+i→
  f50_l1 t k n a z=bif (t.objs.drop i).all (d5 t.objs) then k (nU a (t.objs.drop i)) else some false
 |0,i,z,a,_,_,h=>oM
 |n+1,i,z,a,hz,hi,h=>by
  subst hz
  rw[f50_l1]
  by_cases hh:i<t.objs.length
  ·rw[aC hh,List.all_cons,dcT (by omega:(i:Int)<(t.objs.length:Int)),cdT,aw hh,bnS,f84_eq t _ (hs _ (List.getElem_mem _)),bnS,bl (x:=(i:Int)+1) oM oM,bnS]
   cases hc:d5 t.objs t.objs[i]
   ·rfl
   ·rw[Bool.not_true,cdF,Bool.true_and,f50_l1_eq t k hl hs n (i+1) _ _ (by push_cast;rfl) oM oM]
    rfl
  ·rw[dcF (by omega:¬(i:Int)<(t.objs.length:Int)),cdF,List.drop_eq_nil_of_le oM]
   rfl
def neI(x y:ed):Bool:= !(decide (y.o=x.o)&&decide (y.slot=x.slot))
def gf(os:List Obj):List ed→List ed→Bool
 |_,[]=>true
 |P,x::r=>(eN os x&&P.all (neI x))&&gf os (P++ [x]) r
theorem f50_l3_eq(t:ah)(j:Nat)(x:ed)(r:Option Bool)(hj:j≤t.inits.length)(hl:t.inits.length<9223372036854775808):∀(n i:Nat)(z:Int),z=(i:Int)→i≤j→j<n+i→
  f50_l3 t (j:Int) (λ_ _ _=>r) x n z=bif ((t.inits.take j).drop i).all (neI x) then r else some false
 |0,i,z,_,_,h=>oM
 |n+1,i,z,hz,hi,h=>by
  subst hz
  rw[f50_l3]
  have hL:(t.inits.take j).length=j:=by rw[List.length_take];omega
  by_cases hh:i<j
  ·have e:(t.inits.take j)[i]'oM=t.inits[i]'oM:=List.getElem_take
   rw[aC (L:=t.inits.take j) (i:=i) oM,List.all_cons,e,dcT (by omega:(i:Int)<(j:Int)),cdT,aw (show i<t.inits.length by omega),bnS,bl oM oM,f50_l3_eq t j x r hj hl n (i+1) _ (by push_cast;rfl) oM oM]
   generalize t.inits[i]'oM=y
   unfold neI
   rw[bnS]
   cases decide (y.o=x.o)<;>cases decide (y.slot=x.slot)<;>rfl
  ·rw[dcF (by omega:¬(i:Int)<(j:Int)),cdF,List.drop_eq_nil_of_le oM]
   rfl
theorem f50_l2_eq(t:ah)(r:Option Bool)(hl:t.inits.length<9223372036854775808)(hs:∀o∈t.objs,o.set_.length<9223372036854775808):∀(n i:Nat)(z:Int),z=(i:Int)→i≤t.inits.length→t.inits.length<n+i→
  f50_l2 t (λ_=>r) n z=bif gf t.objs (t.inits.take i) (t.inits.drop i) then r else some false
 |0,i,z,_,_,h=>oM
 |n+1,i,z,hz,hi,h=>by
  subst hz
  rw[f50_l2]
  by_cases hh:i<t.inits.length
  ·rw[aC hh,gf,←List.take_succ_eq_append_getElem hh,dcT (by omega:(i:Int)<(t.inits.length:Int)),cdT,ap,aw hh,bnS,f85_eq _ _ _ _ oM,bnS,bl oM oM,f50_l2_eq t r hl hs n (i+1) _ (by push_cast;rfl) oM oM]
   rw[f50_l3_eq t i _ _ oM hl _ 0 0 rfl (Nat.zero_le _) oM,List.drop_zero]
   generalize t.inits[i]=x
   unfold eN
   cases hsp:spot t.objs x.o x.slot 1
   ·rfl
   ·obtain⟨y,hy,_⟩:=jz hsp
    rw[hy]
    simp only[Bool.not_true,bnS,cdF,Bool.true_and]
    rw[f86_eq _ _ (hs _ (ir hy))]
    simp only[bnS]
    cases fits y x.v<;>cases (t.inits.take i).all (neI x)<;>rfl
  ·rw[dcF (by omega:¬(i:Int)<(t.inits.length:Int)),cdF,List.drop_eq_nil_of_le oM]
   rfl
theorem tz(P:List ed)(m:List ((Int×Int)×Bool))(x:ed):inM (P.foldl (λm x=>aS m (x.o,x.slot) true) m) (x.o,x.slot)=(inM m (x.o,x.slot)|| !(P.all (neI x))):=by
 induction P generalizing m with
 |nil=>simp
 |cons y P ih=>
  rw[List.foldl_cons,ih,oo,List.all_cons]
  have:decide ((y.o,y.slot)=(x.o,x.slot))= !(neI x y):=by
   unfold neI
   rw[Bool.not_not]
   by_cases h1:y.o=x.o
   ·by_cases h2:y.slot=x.slot
    ·simp[h1,h2]
    ·simp[h1,h2]
   ·simp[h1]
  rw[this]
  cases neI x y<;>cases inM m (x.o,x.slot)<;>simp
theorem ky(os:List Obj):∀(r P:List ed),gf os P r=dx os (P.foldl (λm x=>aS m (x.o,x.slot) true) []) r
 |[],P=>rfl
 |x::r,P=>by
  rw[gf,dx,ky os r (P++ [x]),List.foldl_append,tz]
  have e:inM ([]:List ((Int×Int)×Bool)) (x.o,x.slot)=false:=rfl
  rw[e,Bool.false_or,Bool.not_not]
  simp only[List.foldl_cons,List.foldl_nil]
  cases eN os x<;>cases P.all (neI x)<;>rfl
theorem Av{α:Type}(xs:List α)(F:Nat→Int→Option Bool)(k:Option Bool)(p:α→Bool)(hl:xs.length<9223372036854775808)
  (h0:∀n (i:Nat)(h:i<xs.length),F (n+1) (i:Int)=bif p xs[i] then F n ((i+1:Nat):Int) else some false)
  (h1:∀n,F (n+1) (xs.length:Int)=k):∀(n i:Nat)(z:Int),z=(i:Int)→i≤xs.length→xs.length<n+i→F n z=bif (xs.drop i).all p then k else some false
 |0,i,z,_,_,h=>oM
 |n+1,i,z,hz,hi,h=>by
  subst hz
  by_cases hh:i<xs.length
  ·rw[aC hh,List.all_cons,h0 n i hh,Av xs F k p hl h0 h1 n (i+1) _ rfl oM oM]
   cases p xs[i]<;>rfl
  ·have e:i=xs.length:=oM
   subst e
   rw[h1,List.drop_eq_nil_of_le (Nat.le_refl _)];rfl
theorem iT{α:Type}(xs:List α)(F:Nat→Int→Option Bool)(k:Option Bool)(p:α→Bool)(n:Nat)(hn:n=9223372036854775808)(hl:xs.length<9223372036854775808)
  (h0:∀n (i:Nat)(h:i<xs.length),F (n+1) (i:Int)=bif p xs[i] then F n ((i+1:Nat):Int) else some false)
  (h1:∀n,F (n+1) (xs.length:Int)=k):F n 0=bif xs.all p then k else some false:=by
 rw[Av xs F k p hl h0 h1 n 0 0 rfl (Nat.zero_le _) oM,List.drop_zero]
theorem di{i n:Nat}(h:i<n):decide ((i:Int)<(n:Int))=true:=dcT oM
theorem cG{n:Nat}:decide ((n:Int)<(n:Int))=false:=dcF oM
theorem fP{i n:Nat}(h:i<n)(hl:n<9223372036854775808):IntKind.i64.wrap ((i:Int)+1)=((i+1:Nat):Int):=by rw[bl oM oM];push_cast;rfl
theorem f87_eq(t:ah)(l:List Int):f87 t l=some (dR t.objs l):=by
 unfold f87 dR
 by_cases h:(l.length:Int)≤8
 ·rw[dcT h,dcF (by omega:¬(l.length:Int)>8),cdF,ap,
   iT l (f87_l1 t l λ_=>some true) (some true) (qQ t.objs) _ rfl oM (λn i hi=>by
    rw[f87_l1,di hi,cdT,aw hi,bnS,fP hi oM]
    generalize l[i]=x
    unfold qQ
    by_cases hx:0≤x∧x<t.objs.length
    ·obtain⟨y,hy,_⟩:=bd hx
     rw[hy,dcF (show¬x<0 by omega)]
     simp only[cdF,bnS]
     rw[dcF (show¬x≥(t.objs.length:Int) by omega),cdF,hy,bnS]
     cases decide (y.size=1)<;>rfl
    ·rw[bJ hx]
     by_cases h1:x<0
     ·rw[dcT h1];rfl
     ·rw[dcF h1]
      simp only[cdF,bnS]
      rw[dcT (show x≥(t.objs.length:Int) by omega)];rfl) (λn=>by rw[f87_l1,cG,cdF])]
  cases l.all (qQ t.objs)<;>rfl
 ·rw[dcF h,dcT (by omega:(l.length:Int)>8)];rfl
theorem f51_eq(t:ah):f51 t=some (dJ t):=by
 unfold f51 dJ
 cases h1:(decide ((t.tasks.length:Int)<1)||decide ((t.tasks.length:Int)>32))
 ·have hl:(t.tasks.length:Int)≤32:=by
   simp only[Bool.or_eq_false_iff,decide_eq_false_iff_not] at h1
   omega
  rw[cdF,ap,iT t.tasks (f51_l1 t λ_=>some true) (some true) (fb t) _ rfl oM (λn i hi=>by
   rw[f51_l1,di hi,cdT,ap,aw hi,bnS,fP hi oM]
   generalize t.tasks[i]=x
   unfold fb
   have hat:f26 t x.at_=at1 t x.at_:=rfl
   rw[hat]
   cases hc:(((((decide (x.prio<0)||decide (x.prio>31))||(!(at1 t x.at_)))||decide (x.deadline<0))||decide (x.deadline>2147483647))||decide ((x.entries.length:Int)>8))
   ·have he:(x.entries.length:Int)≤8:=by
     simp only[Bool.or_eq_false_iff,decide_eq_false_iff_not] at hc
     omega
    rw[cdF,iT x.entries (f51_l2 t (λ_ _ _ _=>f51_l1 t (λ_=>some true) n ((i+1:Nat):Int)) x) (f51_l1 t (λ_=>some true) n ((i+1:Nat):Int)) (ez t.objs) _ rfl oM (λm j hj=>by
     rw[f51_l2,di hj,cdT,aw hj,bnS,fP hj oM,f87_eq,bnS,bnS,f87_eq]
     unfold ez
     cases dR t.objs x.entries[j].ins<;>cases dR t.objs x.entries[j].outs<;>rfl) (λm=>by rw[f51_l2,cG,cdF])]
    cases x.entries.all (ez t.objs)<;>rfl
   ·rfl) (λn=>by rw[f51_l1,cG,cdF])]
  cases t.tasks.all (fb t)<;>rfl
 ·rfl
theorem wB(a b:Int)(ha: -9223372036854775808≤a∧a≤9223372036854775807)(hb: -9223372036854775808≤b∧b≤9223372036854775807):
  decide ((IntKind.i64.wrap (BitVec.ofInt IntKind.i64.bits a|||BitVec.ofInt IntKind.i64.bits b).toNat)=0)=(decide (a=0)&&decide (b=0)):=by
 have hz:∀x:BitVec 64,IntKind.i64.wrap (x.toNat:Int)=0↔x=0#64:=λx=>by
  have:=x.isLt
  rw[IntKind.wrap_i64]
  constructor
  ·intro h
   apply BitVec.eq_of_toNat_eq
   show x.toNat=0
   omega
  ·intro h
   have:x.toNat=0:=by rw[h];rfl
   omega
 have hf:∀a:Int, -9223372036854775808≤a∧a≤9223372036854775807→(BitVec.ofInt 64 a=0#64↔a=0):=λa ha=>by
  constructor
  ·intro h
   have:=congrArg BitVec.toNat h
   rw[BitVec.toNat_ofInt] at this
   have e:(0#64).toNat=0:=rfl
   rw[e] at this
   omega
  ·intro h
   rw[h];rfl
 have e:(IntKind.i64.wrap (BitVec.ofInt IntKind.i64.bits a|||BitVec.ofInt IntKind.i64.bits b).toNat=0)↔(a=0∧b=0):=(hz _).trans (BitVec.or_eq_zero_iff.trans (and_congr (hf a ha) (hf b hb)))
 rw[decide_eq_decide.2 e,Bool.decide_and]
theorem xR(t:ah)(o:Int)(a:jq)(h1: -9223372036854775808≤a.entry∧a.entry≤9223372036854775807)(h2: -9223372036854775808≤a.time∧a.time≤9223372036854775807):f90 t o a=some (fA t o a):=by
 unfold f90 fA
 rw[wB _ _ h1 h2,f85_eq t o a.guard 1 oM,f85_eq t o a.time 1 oM]
 have hat:f26 t a.at_=at1 t a.at_:=rfl
 have h8:decide (a.entry≤7)=decide (a.entry<8):=by
  by_cases h:a.entry≤7
  ·rw[dcT h,dcT oM]
  ·rw[dcF h,dcF oM]
 rw[hat,h8]
 simp only[ap,bnS]
 cases at1 t a.at_
 ·rfl
 ·cases decide (a.guard= -1)
  ·cases spot t.objs o a.guard 1
   ·rfl
   ·cases decide (a.kind=1)
    ·cases decide (a.kind=2)<;>cases decide (a.kind=3)<;>cases decide (a.kind=4)<;>cases decide (a.entry=0)<;>cases decide (a.time=0)<;>rfl
    ·rfl
  ·cases decide (a.kind=1)
   ·cases decide (a.kind=2)<;>cases decide (a.kind=3)<;>cases decide (a.kind=4)<;>cases decide (a.entry=0)<;>cases decide (a.time=0)<;>rfl
   ·rfl
theorem tf{os:List Obj}{o:Int}(hp:∀y,idx os o=some y→1≤y.size∧y.size≤65536):spot os o 0 1=(decide (0≤o)&&decide (o<(os.length:Int))):=by
 unfold spot
 by_cases h:0≤o∧o<os.length
 ·obtain⟨x,hx,_⟩:=bd h
  have:=hp x hx
  rw[hx,dcT h.1,dcT h.2]
  dsimp only
  rw[bl oM oM]
  simp;omega
 ·rw[bJ h]
  dsimp only
  by_cases h1:0≤o
  ·rw[dcF (show¬o<(os.length:Int) by omega),Bool.and_false]
  ·rw[dcF h1];rfl
theorem f53_l2_eq(t:ah)(x:cg)(r:Option Bool)(ha:∀a∈x.alts,(-9223372036854775808≤a.entry∧a.entry≤9223372036854775807)∧-9223372036854775808≤a.time∧a.time≤9223372036854775807)(hl:x.alts.length<9223372036854775808)(n:Nat)(hn:n=9223372036854775808):
  f53_l2 t (λ_ _ _=>r) x n 0=bif x.alts.all (fA t x.obj) then r else some false:=
 iT x.alts (f53_l2 t (λ_ _ _=>r) x) r (fA t x.obj) n hn hl (λm j hj=>by
  have:=ha _ (List.getElem_mem hj)
  rw[f53_l2,di hj,cdT,aw hj,bnS,fP hj hl,xR _ _ _ this.1 this.2,bnS]
  cases fA t x.obj x.alts[j]<;>rfl) (λm=>by rw[f53_l2,cG,cdF])
def jd{α:Type}(q:List α→α→Bool):List α→List α→Bool
 |_,[]=>true
 |P,x::r=>q P x&&jd q (P++ [x]) r
theorem yi{α:Type}(xs:List α)(F:Nat→Int→Option Bool)(k:Option Bool)(q:List α→α→Bool)(hl:xs.length<9223372036854775808)
  (h0:∀n (i:Nat)(h:i<xs.length),F (n+1) (i:Int)=bif q (xs.take i) xs[i] then F n ((i+1:Nat):Int) else some false)
  (h1:∀n,F (n+1) (xs.length:Int)=k):∀(n i:Nat)(z:Int),z=(i:Int)→i≤xs.length→xs.length<n+i→F n z=bif jd q (xs.take i) (xs.drop i) then k else some false
 |0,i,z,_,_,h=>oM
 |n+1,i,z,hz,hi,h=>by
  subst hz
  by_cases hh:i<xs.length
  ·rw[aC hh,jd,←List.take_succ_eq_append_getElem hh,h0 n i hh,yi xs F k q hl h0 h1 n (i+1) _ rfl oM oM]
   cases q (xs.take i) xs[i]<;>rfl
  ·have e:i=xs.length:=oM
   subst e
   rw[h1,List.drop_eq_nil_of_le (Nat.le_refl _)];rfl
theorem rJ{α:Type}(xs:List α)(F:Nat→Int→Option Bool)(k:Option Bool)(q:List α→α→Bool)(n:Nat)(hn:n=9223372036854775808)(hl:xs.length<9223372036854775808)
  (h0:∀n (i:Nat)(h:i<xs.length),F (n+1) (i:Int)=bif q (xs.take i) xs[i] then F n ((i+1:Nat):Int) else some false)
  (h1:∀n,F (n+1) (xs.length:Int)=k):F n 0=bif jd q [] xs then k else some false:=by
 rw[yi xs F k q hl h0 h1 n 0 0 rfl (Nat.zero_le _) oM,List.drop_zero,List.take_zero]
theorem qB{α:Type}(xs:List α)(j:Nat)(hj:j≤xs.length)(F:Nat→Int→Option Bool)(k:Option Bool)(p:α→Bool)(n:Nat)(hn:n=9223372036854775808)(hl:xs.length<9223372036854775808)
  (h0:∀n (i:Nat)(h:i<xs.length),i<j→F (n+1) (i:Int)=bif p xs[i] then F n ((i+1:Nat):Int) else some false)
  (h1:∀n,F (n+1) (j:Int)=k):F n 0=bif (xs.take j).all p then k else some false:=by
 have hL:(xs.take j).length=j:=by rw[List.length_take];omega
 refine iT (xs.take j) F k p n hn oM (λm i h=>?_) (λm=>by rw[hL];exact h1 m)
 rw[h0 m i oM oM,List.getElem_take]
def pE(n:Int)(P:List Int)(x:Int):Bool:= !(decide (x<1)||decide (x≥n))&&P.all λy=> !(decide (y=x))
theorem uX(P:List Int)(m:List (Int×Bool))(x:Int):inM (P.foldl (λm x=>aS m x true) m) x=(inM m x|| !(P.all λy=> !(decide (y=x)))):=by
 induction P generalizing m with
 |nil=>simp
 |cons y P ih=>
  rw[List.foldl_cons,ih,oo,List.all_cons]
  cases decide (y=x)<;>cases inM m x<;>simp
theorem pD(n:Int):∀(r P:List Int),jd (pE n) P r=fJ n (P.foldl (λm x=>aS m x true) []) r
 |[],P=>rfl
 |x::r,P=>by
  rw[jd,fJ,pD n r (P++ [x]),List.foldl_append,uX]
  have e:inM ([]:List (Int×Bool)) x=false:=rfl
  rw[e,Bool.false_or,pE]
  simp only[List.foldl_cons,List.foldl_nil]
  cases (decide (x<1)||decide (x≥n))<;>cases (P.all λy=> !(decide (y=x)))<;>rfl
theorem f53_l4_eq(t:ah)(l:List Int)(r:Option Bool)(hl:l.length<9223372036854775808)(n:Nat)(hn:n=9223372036854775808):
  f53_l4 t (λ_=>r) l n 0=bif fJ t.tasks.length [] l then r else some false:=by
 rw[show fJ (t.tasks.length:Int) [] l=jd (pE t.tasks.length) [] l from(pD _ l []).symm]
 refine rJ l (f53_l4 t (λ_=>r) l) r (pE t.tasks.length) n hn hl (λm i hi=>?_) (λm=>by rw[f53_l4,cG,cdF])
 rw[f53_l4,di hi,cdT,ap,aw hi,bnS,fP hi hl,bnS]
 unfold pE
 rw[qB l i oM (f53_l5 l (i:Int) λ_=>f53_l4 t (λ_=>r) l m ((i+1:Nat):Int)) (f53_l4 t (λ_=>r) l m ((i+1:Nat):Int)) (λy=> !(decide (y=l[i]))) _ rfl hl (λm' j hj hji=>by
  rw[f53_l5,dcT (by omega:(j:Int)<(i:Int)),cdT,aw hj,bnS,aw hi,bnS,fP hj hl]
  cases decide (l[j]=l[i])<;>rfl) (λm'=>by rw[f53_l5,cG,cdF])]
 cases decide (l[i]<1)<;>cases decide (l[i]≥(t.tasks.length:Int))<;>cases ((l.take i).all λy=> !(decide (y=l[i])))<;>rfl
theorem f53_l3_eq(t:ah)(r:Option Bool)(hl:t.lists.length<9223372036854775808)(n:Nat)(hn:n=9223372036854775808):
  f53_l3 t (λ_=>r) n 0=bif t.lists.all (jJ t) then r else some false:=by
 refine iT t.lists (f53_l3 t λ_=>r) r (jJ t) n hn hl (λm i hi=>?_) (λm=>by rw[f53_l3,cG,cdF])
 rw[f53_l3,di hi,cdT,ap,aw hi,bnS,fP hi hl]
 generalize t.lists[i]=x
 unfold jJ
 by_cases h:(x.length:Int)>32
 ·rw[dcT h,Bool.not_true,Bool.and_false];rfl
 ·rw[dcF h,cdF,f53_l4_eq t x _ oM _ rfl]
  cases fJ t.tasks.length [] x<;>rfl
structure SzA(t:ah):Prop where
 alts:∀x∈t.selects,∀a∈x.alts,(-9223372036854775808≤a.entry∧a.entry≤9223372036854775807)∧-9223372036854775808≤a.time∧a.time≤9223372036854775807
theorem f53_l1_eq(t:ah)(ha:SzA t)(hp:∀o y,idx t.objs o=some y→1≤y.size∧y.size≤65536)(r:Option Bool)(hl:t.selects.length<9223372036854775808)(n:Nat)(hn:n=9223372036854775808):
  f53_l1 t (λ_=>r) n 0=bif t.selects.all (fu t) then r else some false:=by
 refine iT t.selects (f53_l1 t λ_=>r) r (fu t) n hn hl (λm i hi=>?_) (λm=>by rw[f53_l1,cG,cdF])
 rw[f53_l1,di hi,cdT,ap,aw hi,bnS,fP hi hl]
 have hx:=ha.alts _ (List.getElem_mem hi)
 generalize t.selects[i]=x at hx
 have hat:f26 t x.else_=at1 t x.else_:=rfl
 rw[f85_eq t x.obj 0 1 oM,tf (hp x.obj),hat]
 unfold fu
 by_cases hc:1≤(x.alts.length:Int)∧(x.alts.length:Int)≤16
 ·rw[dcF (show¬(x.alts.length:Int)<1 by omega),dcF (show¬(x.alts.length:Int)>16 by omega)]
  simp only[Bool.or_self,cdF,bnS,Bool.false_or]
  rw[f53_l2_eq t x _ hx oM _ rfl]
  by_cases h1:0≤x.obj
  ·rw[dcT h1,dcF (show¬x.obj<0 by omega)]
   by_cases h2:x.obj<(t.objs.length:Int)
   ·rw[dcT h2,dcF (show¬x.obj≥(t.objs.length:Int) by omega)]
    cases decide (x.else_= -1)<;>cases at1 t x.else_<;>cases x.alts.all (fA t x.obj)<;>rfl
   ·rw[dcF h2,dcT (show x.obj≥(t.objs.length:Int) by omega)];rfl
  ·rw[dcF h1,dcT (show x.obj<0 by omega)];rfl
 ·have:(decide ((x.alts.length:Int)<1)||decide ((x.alts.length:Int)>16))=true:=by
   rw[Bool.or_eq_true]
   simp only[decide_eq_true_eq]
   omega
  rw[this];rfl
theorem f53_eq(t:ah)(ha:SzA t)(hp:∀o y,idx t.objs o=some y→1≤y.size∧y.size≤65536):f53 t=some (iG t&&gT t):=by
 unfold f53 iG gT
 by_cases h1:(t.selects.length:Int)>1024
 ·rw[dcT h1];rfl
 ·rw[dcF h1,Bool.false_or]
  by_cases h2:(t.lists.length:Int)>4096
  ·rw[dcT h2]
   cases t.selects.all (fu t)<;>rfl
  ·rw[dcF h2,cdF,ap,f53_l1_eq t ha hp _ oM _ rfl,ap,f53_l3_eq t _ oM _ rfl]
   cases t.selects.all (fu t)<;>cases t.lists.all (jJ t)<;>rfl
def xm(t:ah)(P:List aQ)(x:aQ):Bool:= !(dQ t x)&&P.all λg=> !((!(decide (g.from_≥x.from_)&&decide (g.to≤x.to)))&&(!(decide (g.to≤x.from_)||decide (x.to≤g.from_))))
theorem rQ{x g:aQ}(hx:x.from_<x.to)(hg:g.from_<g.to):jg x g= !((!(decide (g.from_≥x.from_)&&decide (g.to≤x.to)))&&(!(decide (g.to≤x.from_)||decide (x.to≤g.from_)))):=by
 have e:decide ((if x.from_>g.from_ then x.from_ else g.from_)<(if x.to<g.to then x.to else g.to))=(!(decide (g.to≤x.from_)||decide (x.to≤g.from_))):=by
  by_cases h1:g.to≤x.from_
  ·rw[dcT h1]
   refine dcF ?_
   split<;>split<;>omega
  ·by_cases h2:x.to≤g.from_
   ·rw[dcT h2,Bool.or_true]
    refine dcF ?_
    split<;>split<;>omega
   ·rw[dcF h1,dcF h2]
    refine dcT ?_
    split<;>split<;>omega
 unfold jg
 rw[e]
theorem tA{t:ah}{x:aQ}(h:dQ t x=false):x.from_<x.to:=by
 unfold dQ at h
 simp only[Bool.or_eq_false_iff,decide_eq_false_iff_not] at h
 omega
theorem sg(t:ah):∀(r P:List aQ),(∀g∈P,g.from_<g.to)→jd (xm t) P r=fd t P r
 |[],P,_=>rfl
 |x::r,P,hP=>by
  rw[jd,fd,xm]
  cases hb:dQ t x
  ·have hx:=tA hb
   rw[sg t r (P++ [x]) (λg hg=>by
    rcases List.mem_append.1 hg with h|h
    ·exact hP g h
    ·rw[List.mem_singleton] at h;subst h;exact hx)]
   have e:(P.all λg=> !((!(decide (g.from_≥x.from_)&&decide (g.to≤x.to)))&&(!(decide (g.to≤x.from_)||decide (x.to≤g.from_)))))=P.all (jg x):=by
    rw[Bool.eq_iff_iff,List.all_eq_true,List.all_eq_true]
    constructor
    ·intro h g hg
     rw[rQ hx (hP g hg)];exact h g hg
    ·intro h g hg
     rw[←rQ hx (hP g hg)];exact h g hg
   rw[e]
  ·rfl
theorem f54_eq(t:ah):f54 t=some (iK t):=by
 unfold f54 iK
 cases h1:decide ((t.handlers.length:Int)>4096)
 ·have hl:(t.handlers.length:Int)≤4096:=by
   simp only[decide_eq_false_iff_not] at h1
   omega
  rw[cdF,ap,rJ t.handlers (f54_l1 t λ_=>some true) (some true) (xm t) _ rfl oM (λn i hi=>by
   rw[f54_l1,di hi,cdT,ap,aw hi,bnS,fP hi oM]
   generalize t.handlers[i]=x
   unfold xm
   have hat:f26 t x.at_=at1 t x.at_:=rfl
   have hb:(((((decide (x.from_<0))||(decide (x.from_≥x.to)))||(decide (x.to>(List.length t.insns:Int))))||(!(f26 t x.at_)))||((decide (x.at_≥x.from_))&&(decide (x.at_<x.to))))=dQ t x:=by
    rw[hat];rfl
   rw[hb]
   cases dQ t x
   ·rw[cdF,qB t.handlers i oM (f54_l2 t (i:Int) (λ_ _ _ _=>f54_l1 t (λ_=>some true) n ((i+1:Nat):Int)) x) (f54_l1 t (λ_=>some true) n ((i+1:Nat):Int)) (λg=> !((!(decide (g.from_≥x.from_)&&decide (g.to≤x.to)))&&(!(decide (g.to≤x.from_)||decide (x.to≤g.from_))))) _ rfl oM (λm j hj hji=>by
     rw[f54_l2,dcT (by omega:(j:Int)<(i:Int)),cdT,aw hj,bnS,fP hj oM]
     generalize t.handlers[j]=g
     cases ((!(decide (g.from_≥x.from_)&&decide (g.to≤x.to)))&&(!(decide (g.to≤x.from_)||decide (x.to≤g.from_))))<;>rfl) (λm=>by rw[f54_l2,cG,cdF])]
    rfl
   ·rfl) (λn=>by rw[f54_l1,cG,cdF]),sg t _ _ λg hg=>by cases hg]
  cases fd t [] t.handlers<;>rfl
 ·rfl
def lpQ(t:ah)(P:List Loop)(x:Loop):Bool:=qV t x&&P.all λy=> !(decide (y.back=x.back))
theorem xh(P:List Loop)(m:List (Int×Bool))(x:Loop):inM (P.foldl (λm x=>aS m x.back true) m) x.back=(inM m x.back|| !(P.all λy=> !(decide (y.back=x.back)))):=by
 induction P generalizing m with
 |nil=>simp
 |cons y P ih=>
  rw[List.foldl_cons,ih,oo,List.all_cons]
  cases decide (y.back=x.back)<;>cases inM m x.back<;>simp
theorem uN(t:ah):∀(r P:List Loop),jd (lpQ t) P r=gS t (P.foldl (λm x=>aS m x.back true) []) r
 |[],P=>rfl
 |x::r,P=>by
  rw[jd,gS,uN t r (P++ [x]),List.foldl_append,xh]
  have e:inM ([]:List (Int×Bool)) x.back=false:=rfl
  rw[e,Bool.false_or,lpQ]
  simp only[List.foldl_cons,List.foldl_nil]
  cases qV t x<;>cases (P.all λy=> !(decide (y.back=x.back)))<;>rfl
theorem xe(t:ah)(x:Loop):(((((!(f26 t x.head))||(!(f26 t x.back)))||(decide (x.head>x.back)))||(decide (x.bound<0)))||(decide (x.bound>2147483647)))=(((decide (x.head<0)||decide (x.head>x.back))||(!(at1 t x.back)))||(decide (x.bound<0)||decide (x.bound>2147483647))):=by
 have h1:f26 t x.head=(decide (x.head≥0)&&decide (x.head<(t.insns.length:Int))):=rfl
 have h2:f26 t x.back=(decide (x.back≥0)&&decide (x.back<(t.insns.length:Int))):=rfl
 unfold at1
 rw[h1,h2,Bool.eq_iff_iff]
 simp only[Bool.or_eq_true,Bool.not_eq_true',Bool.and_eq_false_iff,decide_eq_true_eq,decide_eq_false_iff_not]
 omega
theorem f55_eq(t:ah):f55 t=some (pC t):=by
 unfold f55 pC
 cases h1:decide ((t.loops.length:Int)>4096)
 ·have hl:(t.loops.length:Int)≤4096:=by
   simp only[decide_eq_false_iff_not] at h1
   omega
  rw[cdF,ap,rJ t.loops (f55_l1 t λ_=>some true) (some true) (lpQ t) _ rfl oM (λn i hi=>by
   rw[f55_l1,di hi,cdT,ap,aw hi,bnS,fP hi oM]
   generalize t.loops[i]=x
   rw[xe]
   unfold lpQ qV
   cases hc:(decide (x.head<0)||decide (x.head>x.back))||(!(at1 t x.back))
   ·have h2:at1 t x.back=true:=by
     cases h:at1 t x.back
     ·rw[h] at hc;simp at hc
     ·rfl
    obtain⟨y,hy,_⟩:=bd (cH.1 h2)
    rw[hy,bnS]
    cases hd:(decide (x.bound<0)||decide (x.bound>2147483647))
    ·rw[Bool.or_self,cdF]
     have e:((((!decide (y.op=29))&&(!decide (y.op=30)))&&(!decide (y.op=31)))||(!decide (y.to=x.head)))= !(f107 y x.head):=by
      unfold f107
      cases decide (y.op=29)<;>cases decide (y.op=30)<;>cases decide (y.op=31)<;>cases decide (y.to=x.head)<;>rfl
     rw[e,qB t.loops i oM (f55_l2 t (i:Int) n (λ_ _ _ _ _ _ _ _ _ _=>f55_l1 t (λ_=>some true) n ((i+1:Nat):Int)) x y) (f55_l1 t (λ_=>some true) n ((i+1:Nat):Int)) (λg=> !(decide (g.back=x.back))) _ rfl oM (λm j hj hji=>by
      rw[f55_l2,dcT (by omega:(j:Int)<(i:Int)),cdT,aw hj,bnS,fP hj oM]
      generalize t.loops[j]=g
      cases decide (g.back=x.back)<;>rfl) (λm=>by rw[f55_l2,cG,cdF])]
     dsimp only
     cases f107 y x.head<;>rfl
    ·rw[Bool.or_true,Bool.not_true,Bool.and_false,Bool.false_and];rfl
   ·rfl) (λn=>by rw[f55_l1,cG,cdF]),show jd (lpQ t) [] t.loops=gS t [] t.loops from uN t _ []]
  cases gS t [] t.loops<;>rfl
 ·rfl
def mU(z:Bool×Int):Int:=bif z.1 then z.2 else -1
theorem vj(g:Int→aL→Bool×Int)(hg:∀l e,0≤l→l≤256→(g l e).1=true→0≤(g l e).2∧(g l e).2≤256):∀(L:List aL)(l:Int),0≤l→l≤256→(exL g L l).1=true→0≤(exL g L l).2∧(exL g L l).2≤256
 |[],l,h0,h1,_=>⟨h0,h1⟩
 |e::r,l,h0,h1,h=>by
  rw[exL] at h⊢
  cases hb:(g l e).1
  ·rw[hb] at h;cases h
  ·rw[hb,cdT] at h
   rw[cdT]
   have:=hg l e h0 h1 hb
   exact vj g hg r _ this.1 this.2 h
theorem ra(os:List Obj)(ent:Int):∀(n:Nat)(deep left:Int)(e:aL),0≤left→left≤256→(exF os ent n deep left e).1=true→0≤(exF os ent n deep left e).2∧(exF os ent n deep left e).2≤256
 |0,deep,left,e,_,_,h=>by cases h
 |n+1,deep,left,e,h0,h1,h=>by
  rw[exF] at h⊢
  cases hb:((decide (IntKind.i64.wrap (left - 1)<0)||decide (deep>64))||dK os ent e)
  ·rw[hb,cdF] at h
   rw[cdF]
   rw[bl oM oM] at hb h⊢
   have:¬left - 1<0:=by
    intro hh
    rw[dcT hh] at hb;simp at hb
   exact vj _ (λl e a b c=>ra os ent n (deep+1) l e a b c) _ _ oM oM h
  ·rw[hb] at h;cases h
theorem f88_loop(rec:ah→Int→aL→Int→Int→Option Int)(t:ah)(ent:Int)(e:aL)(deep:Int)(g:Int→aL→Bool×Int)
  (hr:∀l x,0≤l→l≤256→rec t ent x (IntKind.i64.wrap (deep+1)) l=some (mU (g l x)))(hg:∀l e,0≤l→l≤256→(g l e).1=true→0≤(g l e).2∧(g l e).2≤256)(hl:e.l.length<9223372036854775808):
  ∀(n i:Nat)(z left:Int),z=(i:Int)→i≤e.l.length→e.l.length<n+i→0≤left→left≤256→f88s_l1 rec t ent e deep (λn=>some n) n left z=some (mU (exL g (e.l.drop i) left))
 |0,i,z,left,_,_,h,_,_=>oM
 |n+1,i,z,left,hz,hi,h,h0,h1=>by
  subst hz
  rw[f88s_l1,dcT (show left≥0 from h0),Bool.and_true]
  by_cases hh:i<e.l.length
  ·rw[aC hh,di hh,cdT,aw hh,bnS,hr _ _ h0 h1,bnS,fP hh hl,exL]
   cases hb:(g left e.l[i]).1
   ·rw[mU,hb,cdF,cdF]
    cases n with
    |zero=>omega
    |succ n=>
     rw[f88s_l1,dcF (show¬(-1:Int)≥0 by omega),Bool.and_false];rfl
   ·have:=hg _ _ h0 h1 hb
    rw[mU,hb,cdT,cdT,f88_loop rec t ent e deep g hr hg hl n (i+1) _ _ rfl oM oM this.1 this.2]
  ·have ei:i=e.l.length:=oM
   subst ei
   rw[cG,cdF,List.drop_eq_nil_of_le (Nat.le_refl _)];rfl
theorem qF(f p a b c d l lo hi:Bool):((!f)||(!((((((a&&b)&&c)&&d)&&l)&&lo)&&hi))||(!p))=(((((((((!f)||(!p))||(!a))||(!b))||(!c))||(!d))||(!l))||(!lo))||(!hi)):=by
 cases f<;>cases p<;>cases a<;>cases b<;>cases c<;>cases d<;>cases l<;>cases lo<;>cases hi<;>rfl
def ft(z:Bool×Int×Int×Int×Int×Int)(e:aL):Bool:=
 ((((((((!z.1)||(!decide ((List.length e.l:Int)=z.2.1)))||(!decide (e.op=z.2.2.1)))||(!decide (e.n=z.2.2.2.1)))||(!decide (e.o=z.2.2.2.2.1)))||(!decide (e.off=z.2.2.2.2.2)))||(!decide (e.len=0)))||(!decide (e.lo=0)))||(!decide (e.hi=0))
theorem pn(os:List Obj)(ent:Int)(e:aL):dK os ent e=ft (bI os ent e) e:=rfl
def oI(rec136:ah→Int→aL→Int→Int→Option (Int))(t0:ah)(entries1:Int)(e2:aL)(deep3:Int)(n4:Int)(parts174:Int)(fine175:Bool)(c01176:Int)(c02177:Int)(c03178:Int)(c04179:Int):Option Int:=
 (bif (((!fine175)||(!(((((((decide (e2.op=c01176))&&(decide (e2.n=c02177)))&&(decide (e2.o=c03178)))&&(decide (e2.off=c04179)))&&(decide (e2.len=0)))&&(decide (e2.lo=0)))&&(decide (e2.hi=0)))))||(!decide ((List.length e2.l:Int)=parts174))) then some (-1) else ak (λ(n186:Int)=>
 some n186) λk187=>
 (f88s_l1 rec136 t0 entries1 e2 deep3 k187 9223372036854775808 (IntKind.i64.wrap (n4 - 1)) 0))
theorem f88s_W(rec136:ah→Int→aL→Int→Int→Option (Int))(t:ah)(ent:Int)(e:aL)(deep left:Int):f88s rec136 t ent e deep left=
  (bif ((decide (left=0))||(decide (deep>64))) then some (-1) else
  bif (decide (e.kind=1)) then oI rec136 t ent e deep left 0 true 0 e.n 0 0 else
  bif (decide (e.kind=2)) then(Option.bind (f85 t e.o e.off 1) λr181=>Option.bind (bif r181 then(Option.bind (idx t.objs e.o) λx183=>some (!x183.ptr)) else some false) λb182=>oI rec136 t ent e deep left 0 b182 0 0 e.o e.off) else
  bif (decide (e.kind=14)) then oI rec136 t ent e deep left 0 ((decide (e.n≥0))&&(decide (e.n<ent))) 0 e.n 0 0 else
  bif (decide (e.kind=4)) then oI rec136 t ent e deep left 1 true 18 0 0 0 else
  bif (decide (e.kind=5)) then oI rec136 t ent e deep left 2 ((decide (e.op≥7))&&(decide (e.op≤15))) e.op 0 0 0 else
  bif (decide (e.kind=6)) then(bif decide (e.kind=6) then oI rec136 t ent e deep left 2 true 0 0 0 0 else some (-1)) else(bif decide (e.kind=7) then oI rec136 t ent e deep left 2 true 0 0 0 0 else some (-1))):=rfl
theorem xW(rec:ah→Int→aL→Int→Int→Option Int)(t:ah)(ent:Int)(e:aL)(deep left:Int)(g:Int→aL→Bool×Int)
  (hr:∀l x,0≤l→l≤256→rec t ent x (IntKind.i64.wrap (deep+1)) l=some (mU (g l x)))(hg:∀l e,0≤l→l≤256→(g l e).1=true→0≤(g l e).2∧(g l e).2≤256)(h0:1≤left)(h1:left≤256)
  (parts:Int)(fine:Bool)(a b c d:Int)(hp:parts≤2):oI rec t ent e deep left parts fine a b c d=some (mU (bif ft (fine,parts,a,b,c,d) e then(false,IntKind.i64.wrap (left - 1)) else exL g e.l (IntKind.i64.wrap (left - 1)))):=by
 unfold oI
 rw[qF]
 show(bif ft (fine,parts,a,b,c,d) e then _ else _)=_
 cases hs:ft (fine,parts,a,b,c,d) e
 ·have hl:(e.l.length:Int)=parts:=by
   unfold ft at hs
   simp only[Bool.or_eq_false_iff,Bool.not_eq_false',decide_eq_true_eq] at hs
   exact hs.1.1.1.1.1.1.1.2
  rw[cdF,cdF,ap,bl oM oM,f88_loop rec t ent e deep g hr hg oM _ 0 0 _ rfl (Nat.zero_le _) oM oM oM,List.drop_zero]
 ·rfl
theorem f88s_eq(rec:ah→Int→aL→Int→Int→Option Int)(t:ah)(ent:Int)(e:aL)(deep left:Int)(g:Int→aL→Bool×Int)
  (hr:∀l x,deep≤64→0≤l→l≤256→rec t ent x (IntKind.i64.wrap (deep+1)) l=some (mU (g l x)))(hg:∀l e,0≤l→l≤256→(g l e).1=true→0≤(g l e).2∧(g l e).2≤256)(h0:0≤left)(h1:left≤256):
  f88s rec t ent e deep left=some (mU (bif (decide (IntKind.i64.wrap (left - 1)<0)||decide (deep>64))||dK t.objs ent e then(false,IntKind.i64.wrap (left - 1)) else exL g e.l (IntKind.i64.wrap (left - 1)))):=by
 rw[f88s_W]
 have e0:decide (IntKind.i64.wrap (left - 1)<0)=decide (left=0):=by
  rw[bl oM oM]
  exact decide_eq_decide.2 oM
 rw[e0]
 cases hc:(decide (left=0)||decide (deep>64))
 ·simp only[Bool.or_eq_false_iff,decide_eq_false_iff_not] at hc
  have W:=xW rec t ent e deep left g (λl x=>hr l x oM) hg oM h1
  rw[cdF,Bool.false_or,pn]
  unfold bI
  cases k1:decide (e.kind=1)
  ·cases k2:decide (e.kind=2)
   ·cases k3:decide (e.kind=14)
    ·cases k4:decide (e.kind=4)
     ·cases k5:decide (e.kind=5)
      ·cases k6:decide (e.kind=6)
       ·cases k7:decide (e.kind=7)
        ·rfl
        ·exact W 2 true 0 0 0 0 oM
       ·exact W 2 true 0 0 0 0 oM
      ·refine(W 2 _ e.op 0 0 0 oM).trans ?_
       have es:ft ((decide (e.op≥7)&&decide (e.op≤15)),2,e.op,0,0,0) e=ft (true,2,(if(if 15<e.op then 15 else e.op)>7 then(if 15<e.op then 15 else e.op) else 7),0,0,0) e:=by
        by_cases hh:7≤e.op∧e.op≤15
        ·have:(if(if 15<e.op then 15 else e.op)>7 then(if 15<e.op then 15 else e.op) else 7)=e.op:=by
          split<;>split at* <;>omega
         rw[this,dcT (show e.op≥7 from hh.1),dcT hh.2];rfl
        ·have:e.op≠(if(if 15<e.op then 15 else e.op)>7 then(if 15<e.op then 15 else e.op) else 7):=by
          split<;>split at* <;>omega
         have h2:(decide (e.op≥7)&&decide (e.op≤15))=false:=by
          rw[Bool.and_eq_false_iff]
          simp only[decide_eq_false_iff_not]
          omega
         unfold ft
         dsimp only
         rw[h2,dcF this]
         simp
       rw[es];rfl
     ·exact W 1 true 18 0 0 0 oM
    ·exact W 0 _ 0 e.n 0 0 oM
   ·rw[cdF,cdF,cdT,cdT,f85_eq t e.o e.off 1 oM,bnS]
    cases hs:spot t.objs e.o e.off 1
    ·exact W 0 false 0 0 e.o e.off oM
    ·obtain⟨y,hy,_⟩:=jz hs
     rw[cdT,hy,bnS,bnS]
     refine(W 0 _ 0 0 e.o e.off oM).trans ?_
     dsimp only
     cases y.ptr<;>rfl
  ·exact W 0 true 0 e.n 0 0 oM
 ·rfl
theorem f88_eq(t:ah)(ent:Int):∀(n:Nat)(deep left:Int)(e:aL),1≤deep→deep≤65→66<n+deep→0≤left→left≤256→f88 (n+1) t ent e deep left=some (mU (exF t.objs ent n deep left e))
 |0,deep,left,e,h0,h1,h2,_,_=>oM
 |n+1,deep,left,e,h0,h1,h2,h3,h4=>by
  rw[f88,exF]
  refine f88s_eq (f88 (n+1)) t ent e deep left (exF t.objs ent n (deep+1)) (λl x hd a b=>?_) (λl x a b c=>ra t.objs ent n (deep+1) l x a b c) h3 h4
  rw[bl oM oM]
  exact f88_eq t ent n (deep+1) l x oM oM oM a b
theorem f89_eq(t:ah)(a:Int):f89 t a=some (chk t a):=by
 unfold f89 chk
 have hat:f26 t a=at1 t a:=rfl
 rw[hat]
 cases h:at1 t a
 ·rw[bJ (λhh=>by rw[cH.2 hh] at h;cases h)];rfl
 ·obtain⟨y,hy,_⟩:=bd (cH.1 h)
  rw[hy]
  dsimp only[bnS,cdT]
  cases decide (y.op=27)<;>rfl
def ckQ(t:ah)(P:List d6)(x:d6):Bool:=(chk t x.at_&&(match P.getLast? with|none=>true|some y=>decide (y.at_<x.at_)))&& !(decide (x.kind<1)||decide (x.kind>5))
theorem Aq{t:ah}{a:Int}(h:chk t a=true):0≤a:=by
 unfold chk at h
 cases hx:idx t.insns a with
 |none=>rw[hx] at h;cases h
 |some y=>exact(eF hx).1
theorem vJ(t:ah):∀(r P:List d6),jd (ckQ t) P r=gw t (match P.getLast? with|none=> -1|some y=>y.at_) r
 |[],P=>rfl
 |x::r,P=>by
  rw[jd,gw,vJ t r (P++ [x]),List.getLast?_append,ckQ]
  simp only[List.getLast?_singleton,Option.or_some,Option.getD_some]
  cases hc:chk t x.at_
  ·simp
  ·have:=Aq hc
   cases P.getLast? with
   |none=>
    dsimp only
    rw[dcT (show(-1:Int)<x.at_ by omega)];simp
   |some y=>
    dsimp only
    cases decide (y.at_<x.at_)<;>simp
theorem f52_l3_eq(t:ah)(r:Option Bool)(hl:t.checks.length<9223372036854775808)(n:Nat)(hn:n=9223372036854775808):f52_l3 t (λ_=>r) n 0=bif gw t (-1) t.checks then r else some false:=by
 rw[show gw t (-1) t.checks=jd (ckQ t) [] t.checks from(vJ t _ []).symm]
 refine rJ t.checks (f52_l3 t λ_=>r) r (ckQ t) n hn hl (λm i hi=>?_) (λm=>by rw[f52_l3,cG,cdF])
 rw[f52_l3,di hi,cdT,aw hi,bnS,fP hi hl,f89_eq,bnS]
 have hprev:i≠0→idx t.checks (IntKind.i64.wrap ((i:Int) - 1))=(t.checks.take i).getLast? :=λh0=>by
  rw[bl oM oM,show(i:Int) - 1=((i - 1:Nat):Int) by omega,aw oM,List.getLast?_eq_getElem?,List.length_take,List.getElem?_take_of_lt oM,show min i t.checks.length - 1=i - 1 by omega,geG]
 generalize hx:t.checks[i]=x
 unfold ckQ
 by_cases h0:i=0
 ·subst h0
  rw[dcF (show¬((0:Nat):Int)>0 by omega)]
  cases chk t x.at_<;>cases decide (x.kind<1)<;>cases decide (x.kind>5)<;>rfl
 ·rw[dcT (show((i:Nat):Int)>0 by omega),hprev h0]
  have hs:∃y,(t.checks.take i).getLast? =some y:=by
   rw[←hprev h0,bl oM oM,show(i:Int) - 1=((i - 1:Nat):Int) by omega,aw oM]
   exact⟨_,rfl⟩
  obtain⟨y,hy⟩:=hs
  rw[hy]
  dsimp only[cdT,bnS]
  have e:decide (y.at_≥x.at_)= !(decide (y.at_<x.at_)):=by
   by_cases h:y.at_<x.at_
   ·rw[dcT h,dcF oM];rfl
   ·rw[dcF h,dcT oM];rfl
  rw[e]
  cases chk t x.at_<;>cases decide (y.at_<x.at_)<;>cases decide (x.kind<1)<;>cases decide (x.kind>5)<;>rfl
theorem f52_l1_eq(t:ah)(r:Option Bool)(hl:t.prots.length<9223372036854775808)(n:Nat)(hn:n=9223372036854775808):f52_l1 t (λ_=>r) n 0=bif t.prots.all (gc t) then r else some false:=by
 refine iT t.prots (f52_l1 t λ_=>r) r (gc t) n hn hl (λm i hi=>?_) (λm=>by rw[f52_l1,cG,cdF])
 rw[f52_l1,di hi,cdT,ap,aw hi,bnS,fP hi hl]
 generalize t.prots[i]=x
 unfold gc
 cases hc:(decide (x.ceiling<0)||decide (x.ceiling>31))||decide ((x.barriers.length:Int)>8)
 ·have he:(x.barriers.length:Int)≤8:=by
   simp only[Bool.or_eq_false_iff,decide_eq_false_iff_not] at hc
   omega
  rw[cdF,iT x.barriers (f52_l2 t (λ_ _=>f52_l1 t (λ_=>r) m ((i+1:Nat):Int)) x) (f52_l1 t (λ_=>r) m ((i+1:Nat):Int)) (k9 t x.barriers.length) _ rfl oM (λk j hj=>by
   rw[f52_l2,di hj,cdT,aw hj,bnS,fP hj oM,f88_eq t _ 66 1 256 _ oM oM oM oM oM,bnS]
   unfold k9 mU
   have hle:=ra t.objs x.barriers.length 66 1 256 x.barriers[j] oM oM
   cases hb:(exF t.objs x.barriers.length 66 1 256 x.barriers[j]).1
   ·rfl
   ·have:=hle hb
    rw[cdT,dcF oM];rfl) (λk=>by rw[f52_l2,cG,cdF])]
  cases x.barriers.all (k9 t x.barriers.length)<;>rfl
 ·rfl
theorem f52_eq(t:ah)(hl:t.checks.length<9223372036854775808):f52 t=some (gL t&&gw t (-1) t.checks):=by
 unfold f52 gL
 by_cases h:(t.prots.length:Int)≤32
 ·rw[dcT h,dcF (show¬(t.prots.length:Int)>32 by omega),cdF,ap,ap,f52_l1_eq t _ oM _ rfl,f52_l3_eq t _ hl _ rfl]
  cases t.prots.all (gc t)<;>cases gw t (-1) t.checks<;>rfl
 ·rw[dcF h,dcT (show(t.prots.length:Int)>32 by omega),Bool.and_false];rfl
def tE(c:Int):Bool:=decide (c=68)||(decide (c=65)||(decide (c=66)||(decide (c=78)||(decide (c=77)||decide (c=84)))))
def mt:List Field→List (Int×Int)→Bool
 |[],[]=>true
 |f::F,(c,w)::L=>decide (f.name=c)&&(decide (f.lo=(f157 w).1)&&(decide (f.hi=(f157 w).2)&&(tE c&&(F.all (λg=> !(decide (g.name=c)))&&mt F L))))
 |_,_=>false
def goF(x:aR):List Field→aR→Bool
 |[],c=>(decide (c.op=0))&&((decide (c.d=0))&&((decide (c.a=0))&&((decide (c.b=0))&&((decide (c.n=0))&&((decide (c.m=0))&&((decide (c.to=0))&&true))))))
 |f::F,c=> !((decide ((f133 x f.name)<f.lo))||(decide ((f133 x f.name)>f.hi)))&&goF x F (f134 c f.name 0)
theorem gg{c:Int}(h:tE c=true):c=68∨c=65∨c=66∨c=78∨c=77∨c=84:=by
 unfold tE at h
 simpa only[Bool.or_eq_true,decide_eq_true_eq] using h
theorem f133_set{c:aR}{a b:Int}(ha:tE a=true)(hb:tE b=true)(h:b≠a):f133 (f134 c a 0) b=f133 c b:=by
 rcases gg ha with rfl|rfl|rfl|rfl|rfl|rfl<;>rcases gg hb with rfl|rfl|rfl|rfl|rfl|rfl<;>first|exact absurd rfl h|rfl
theorem f134_op(c:aR)(a:Int):(f134 c a 0).op=c.op:=by
 unfold f134
 rw[ap]
 cases decide (a=68)<;>cases decide (a=65)<;>cases decide (a=66)<;>cases decide (a=78)<;>cases decide (a=77)<;>rfl
theorem qS:∀{F:List Field}{L:List (Int×Int)},mt F L=true→∀f∈F,tE f.name=true
 |[],_,_,f,hf=>by cases hf
 |g::F,[],h,_,_=>by cases h
 |g::F,(c,w)::L,h,f,hf=>by
  simp only[mt,Bool.and_eq_true,decide_eq_true_eq] at h
  rcases List.mem_cons.1 hf with rfl|hf
  ·rw[h.1];exact h.2.2.2.1
  ·exact qS h.2.2.2.2.2 f hf
theorem u3(x:aR):∀(F:List Field)(L:List (Int×Int))(c:aR),mt F L=true→(∀f∈F,f133 c f.name=f133 x f.name)→c.op=0→goF x F c=fl L c.d c.a c.b c.n c.m c.to
 |[],[],c,_,_,h=>by rw[goF,fl,h];rfl
 |[],_::_,c,h,_,_=>by cases h
 |_::_,[],c,h,_,_=>by cases h
 |f::F,(ch,w)::L,c,h,hc,h0=>by
  have hs:=qS h
  simp only[mt,Bool.and_eq_true,decide_eq_true_eq] at h
  obtain⟨h1,h2,h3,h4,h5,h6⟩:=h
  have hne:∀g∈F,g.name≠ch:=λg hg=>by
   have:=List.all_eq_true.1 h5 g hg
   simpa using this
  have ih:=u3 x F L (f134 c f.name 0) h6 (λg hg=>by
   rw[f133_set (hs f List.mem_cons_self) (hs g (List.mem_cons_of_mem _ hg)) (by rw[h1];exact hne g hg)]
   exact hc g (List.mem_cons_of_mem _ hg)) (by rw[f134_op];exact h0)
  rw[goF,ih,←hc f List.mem_cons_self,h2,h3,h1]
  rcases gg h4 with rfl|rfl|rfl|rfl|rfl|rfl<;>rfl
theorem f91_l1_eq(x:aR)(r:Row×Bool)(E:Bool)(hl:r.1.fields.length<9223372036854775808):∀(n i:Nat)(z:Int)(c:aR),z=(i:Int)→i≤r.1.fields.length→r.1.fields.length<n+i→
  f91_l1 x r (λo d a b n m t=>some (((decide (o=0))&&((decide (d=0))&&((decide (a=0))&&((decide (b=0))&&((decide (n=0))&&((decide (m=0))&&((decide (t=0))&&true)))))))&&E)) n z c.op c.d c.a c.b c.n c.m c.to=some (goF x (r.1.fields.drop i) c&&E)
 |0,i,z,c,_,_,h=>oM
 |n+1,i,z,c,hz,hi,h=>by
  subst hz
  rw[f91_l1]
  by_cases hh:i<r.1.fields.length
  ·rw[aC hh,goF,di hh,cdT,aw hh,bnS,fP hh hl]
   have ih:=f91_l1_eq x r E hl n (i+1) _ (f134 c (r.1.fields[i]).name 0) rfl oM oM
   have ec:aR.mk c.op c.d c.a c.b c.n c.m c.to=c:=rfl
   rw[ec,ih]
   generalize r.1.fields[i]=f
   cases ((decide ((f133 x f.name)<f.lo))||(decide ((f133 x f.name)>f.hi)))<;>rfl
  ·have e:i=r.1.fields.length:=oM
   subst e
   rw[cG,cdF,List.drop_eq_nil_of_le (Nat.le_refl _)];rfl
theorem f132_l1_eq(o:Int)(k:Option (Row×Bool))(hf:∀r∈f151,r.op≠o):∀(n i:Nat)(z:Int),z=(i:Int)→i≤f151.length→f151.length<n+i→f132_l1 o (λ_=>k) n z=k
 |0,i,z,_,_,h=>oM
 |n+1,i,z,hz,hi,h=>by
  subst hz
  have h57:f151.length=57:=rfl
  rw[f132_l1]
  by_cases hh:i<f151.length
  ·rw[di hh,cdT,aw hh,bnS,dcF (hf _ (List.getElem_mem hh)),cdF,fP hh oM]
   exact f132_l1_eq o k hf n (i+1) _ rfl oM oM
  ·have e:i=f151.length:=oM
   subst e
   rw[cG,cdF]
theorem f151_ops:(f151.all λr=>decide (1≤r.op)&&decide (r.op≤57))=true:=by decide+kernel
theorem f132_ok:∀k,k<57→(match f132 ((k:Nat)+1:Int) with|some r=>r.2&&(Nat.blt r.1.fields.length 100&&mt r.1.fields (lk ((k:Nat)+1:Int)))|none=>false)=true:=by decide+kernel
theorem f132_out{o:Int}(h:¬(1≤o∧o≤57)):f132 o=some ((Row.mk 0 ByteArray.empty []),false):=by
 unfold f132
 rw[ap]
 refine f132_l1_eq o _ (λr hr he=>?_) _ 0 0 rfl (Nat.zero_le _) (by have h57:f151.length=57:=rfl;omega)
 have:=List.all_eq_true.1 f151_ops r hr
 simp only[Bool.and_eq_true,decide_eq_true_eq] at this
 omega
theorem xt:lk 37=[(78,107),(77,115)]:=by decide+kernel
theorem f91_eq(x:aR):f91 x=some (gW x):=by
 unfold f91 gW
 by_cases h:1≤x.op∧x.op≤57
 ·obtain⟨k,hk⟩:∃k:Nat,x.op=(k:Int)+1:=⟨(x.op - 1).toNat,oM⟩
  have hf:=f132_ok k oM
  rw[←hk] at hf
  cases hr:f132 x.op with
  |none=>rw[hr] at hf;cases hf
  |some r=>
   rw[hr] at hf
   dsimp only at hf
   simp only[Bool.and_eq_true] at hf
   obtain⟨h2,h3,h4⟩:=hf
   have hlen:r.1.fields.length<100:=by simpa[Nat.blt_eq] using h3
   rw[bnS,h2,Bool.not_true,cdF,ap]
   have key:=f91_l1_eq x r (((!decide (x.op=27))||(decide (x.n≤x.m)))&&(((!decide (x.op=37))||(!decide (x.n=6)))||(decide (x.m=0)))) oM 9223372036854775808 0 0 (aR.mk 0 x.d x.a x.b x.n x.m x.to) rfl (Nat.zero_le _) oM
   rw[List.drop_zero,u3 x _ _ _ h4 (λf hf=>by
    have:=qS h4 f hf
    rcases gg this with e|e|e|e|e|e<;>rw[e]<;>rfl) rfl] at key
   have e1:decide (1≤x.op)=true:=dcT h.1
   have e2:decide (x.op≤57)=true:=dcT h.2
   have e3:decide (x.n>x.m)= !(decide (x.n≤x.m)):=by
    by_cases hh:x.n≤x.m
    ·rw[dcT hh,dcF oM];rfl
    ·rw[dcF hh,dcT oM];rfl
   rw[e1,e2,e3]
   refine Eq.trans ?_ (key.trans ?_)
   ·simp only[Bool.and_assoc]
   ·dsimp only
    congr 1
    cases hfl:fl (lk x.op) x.d x.a x.b x.n x.m x.to
    ·simp
    ·by_cases h37:x.op=37
     ·have hn:6≤x.n∧x.n≤7:=by
       rw[h37,xt] at hfl
       simp only[fl,rng,f157] at hfl
       simp at hfl
       omega
      have:IntKind.u8.wrap x.n=x.n:=by
       rcases(show x.n=6∨x.n=7 by omega) with e|e<;>rw[e]<;>rfl
      rw[this]
      cases decide (x.op=27)<;>cases decide (x.n≤x.m)<;>cases decide (x.op=37)<;>cases decide (x.n=6)<;>cases decide (x.m=0)<;>rfl
     ·rw[dcF h37]
      cases decide (x.op=27)<;>cases decide (x.n≤x.m)<;>cases decide (x.n=6)<;>cases decide (x.m=0)<;>simp
 ·rw[f132_out h]
  have e2:(decide (1≤x.op)&&decide (x.op≤57))=false:=by
   rw[Bool.and_eq_false_iff]
   simp only[decide_eq_false_iff_not]
   omega
  rw[e2];rfl
theorem f92_eq(t:ah)(a m:Int)(h0:0≤a)(h1:0≤m)(h2:a≤65536)(h3:m≤65536)(hl:t.insns.length≤65536):f92 t a m=some (decide ((IntKind.i64.wrap (a+m))≤(t.insns.length:Int))&&(cR t.insns a (IntKind.i64.wrap (a+m))).all (λy=>decide (y.op=29))):=by
 unfold f92
 rw[bl oM oM]
 by_cases h:a+m≤(t.insns.length:Int)
 ·rw[dcT h,dcF (show¬a+m>(t.insns.length:Int) by omega),cdF,ap]
  have hL:(t.insns.take (a+m).toNat).length=(a+m).toNat:=by rw[List.length_take];omega
  have:=Av (t.insns.take (a+m).toNat) (f92_l1 t a m λ_=>some true) (some true) (λy=>decide (y.op=29)) oM (λn i hi=>by
   rw[f92_l1,bl (x:=a+m) oM oM,dcT (show(i:Int)<a+m by omega),cdT,aw oM,bnS,fP (n:=t.insns.length) oM oM,List.getElem_take]
   generalize t.insns[i]=y
   cases decide (y.op=29)<;>rfl) (λn=>by
   rw[f92_l1,bl (x:=a+m) oM oM,dcF (show¬(((t.insns.take (a+m).toNat).length:Nat):Int)<a+m by omega),cdF]) 9223372036854775808 a.toNat a oM oM oM
  rw[this]
  have e:cR t.insns a (a+m)=(t.insns.take (a+m).toNat).drop a.toNat:=by
   rw[cR,List.drop_take]
  rw[e]
  cases ((t.insns.take (a+m).toNat).drop a.toNat).all (λy=>decide (y.op=29))<;>rfl
 ·rw[dcF h,dcT (show a+m>(t.insns.length:Int) by omega)];rfl
theorem f93_eq(t:ah)(a n:Int)(hl:∀x∈t.tasks,x.entries.length<9223372036854775808):∃e,f93 t a n=some (e,(mD t a n).2)∧((mD t a n).2=true→(∃x∈t.tasks,e∈x.entries)∧IntKind.i64.wrap (IntKind.i64.wrap ((List.length e.ins:Int)+(List.length e.outs:Int))+1)=(mD t a n).1):=by
 unfold f93 mD
 by_cases h:0≤a∧a<t.tasks.length
 ·obtain⟨y,hy,hym⟩:=bd h
  rw[hy,dcF (show¬a<0 by omega),dcF (show¬a≥(t.tasks.length:Int) by omega)]
  dsimp only[bnS]
  by_cases h2:0≤n∧n<y.entries.length
  ·obtain⟨e,he,hem⟩:=bd h2
   rw[he,dcF (show¬n<0 by omega)]
   simp only[Bool.or_self,cdF,bnS]
   rw[dcF (show¬n≥(y.entries.length:Int) by omega)]
   exact⟨e,rfl,λ_=>⟨⟨y,hym,hem⟩,rfl⟩⟩
  ·rw[bJ h2]
   by_cases h3:n<0
   ·rw[dcT h3];exact⟨_,rfl,λh=>by cases h⟩
   ·rw[dcF h3]
    simp only[Bool.or_self,cdF,bnS]
    rw[dcT (show n≥(y.entries.length:Int) by omega)];exact⟨_,rfl,λh=>by cases h⟩
 ·rw[bJ h]
  have:(decide (a<0)||decide (a≥(t.tasks.length:Int)))=true:=by
   rw[Bool.or_eq_true]
   simp only[decide_eq_true_eq]
   omega
  rw[this];exact⟨_,rfl,λh=>by cases h⟩
theorem f94_eq(t:ah)(p n:Int):f94 t p n=some (tD t p n):=by
 unfold f94 tD
 by_cases h:0≤p∧p<t.prots.length
 ·obtain⟨y,hy,_⟩:=bd h
  rw[hy,dcT (show p≥0 by omega),dcT h.2]
  by_cases h3:0≤n
  ·rw[dcT (show n≥0 from h3)];rfl
  ·rw[dcF (show¬n≥0 from h3)];rfl
 ·rw[bJ h]
  have:(decide (p≥0)&&decide (p<(t.prots.length:Int)))=false:=by
   rw[Bool.and_eq_false_iff]
   simp only[decide_eq_false_iff_not]
   omega
  rw[this];rfl
theorem flds5:lk 5=[(68,114),(65,114),(66,108),(78,111),(77,115)]:=by decide+kernel
theorem flds6:lk 6=[(68,114),(65,114),(66,108),(78,111),(77,115)]:=by decide+kernel
theorem Ab:lk 43=[(68,114),(78,101),(77,113)]:=by decide+kernel
theorem zZ:lk 52=[(65,112),(66,101),(78,98),(84,115)]:=by decide+kernel
theorem uY{x:aR}(h:gW x=true)(ho:x.op=5∨x.op=6):0≤x.b:=by
 unfold gW at h
 have e:lk x.op=[(68,114),(65,114),(66,108),(78,111),(77,115)]:=by
  rcases ho with e|e<;>rw[e]
  ·exact flds5
  ·exact flds6
 rw[e] at h
 simp only[Bool.and_eq_true] at h
 have:=h.2.2
 simp only[fl,rng,f157] at this
 simp at this
 omega
theorem zQ{x:aR}(h:gW x=true)(ho:x.op=43): -1≤x.m:=by
 unfold gW at h
 rw[ho,Ab] at h
 simp only[Bool.and_eq_true] at h
 have:=h.2.2
 simp only[fl,rng,f157] at this
 simp at this
 omega
theorem qX{x:aR}(h:gW x=true)(ho:x.op=52):0≤x.to:=by
 unfold gW at h
 rw[ho,zZ] at h
 simp only[Bool.and_eq_true] at h
 have:=h.2.2
 simp only[fl,rng,f157] at this
 simp at this
 omega
theorem nw{t:ah}(hT:dJ t=true){x:fh}(hx:x∈t.tasks){e:bG}(he:e∈x.entries):(e.ins.length:Int)≤8∧(e.outs.length:Int)≤8:=by
 unfold dJ at hT
 rw[Bool.and_eq_true] at hT
 have:=List.all_eq_true.1 hT.2 x hx
 unfold fb at this
 rw[Bool.and_eq_true] at this
 have:=List.all_eq_true.1 this.2 e he
 unfold ez dR at this
 simp only[Bool.and_eq_true,decide_eq_true_eq] at this
 exact⟨this.1.1,this.2.1⟩
theorem rf{t:ah}(hT:dJ t=true):∀x∈t.tasks,x.entries.length<9223372036854775808:=λx hx=>by
 unfold dJ at hT
 rw[Bool.and_eq_true] at hT
 have:=List.all_eq_true.1 hT.2 x hx
 unfold fb at this
 simp only[Bool.and_eq_true,Bool.not_eq_true',Bool.or_eq_false_iff,decide_eq_false_iff_not] at this
 omega
theorem f56_eq(t:ah)(x:aR)(hT:dJ t=true)(hl:t.insns.length≤65536):f56 t x=some (eY t x):=by
 unfold f56 eY
 rw[f91_eq,bnS]
 cases hm:gW x
 ·rfl
 ·rw[Bool.not_true,cdF,Bool.true_and]
  simp only[ap,f94_eq]
  have hat:f26 t x.to=at1 t x.to:=rfl
  rw[hat,f85_eq t x.n x.m 1 oM]
  cases decide (x.op=3)
  ·cases decide (x.op=4)
   ·cases h5:decide (x.op=5)
    ·cases h6:decide (x.op=6)
     ·cases decide (x.op=29)
      ·cases decide (x.op=30)
       ·cases decide (x.op=31)
        ·cases h32:decide (x.op=32)
         ·cases decide (x.op=33)
          ·cases decide (x.op=44)
           ·cases decide (x.op=45)
            ·cases decide (x.op=46)
             ·cases decide (x.op=56)
              ·cases decide (x.op=50)
               ·obtain⟨e,he,hn⟩:=f93_eq t x.a x.b (rf hT)
                rw[he]
                cases decide (x.op=49)
                ·cases h52:decide (x.op=52)
                 ·cases decide (x.op=53)
                  ·cases decide (x.op=55)
                   ·cases decide (x.op=54)
                    ·cases h43:decide (x.op=43)
                     ·rfl
                     ·have:=zQ hm (of_decide_eq_true h43)
                      have e:decide (x.m= -1)=decide (x.m<0):=decide_eq_decide.2 oM
                      rw[e]
                      cases decide (x.m<0)<;>rfl
                    ·rfl
                   ·rfl
                  ·rfl
                 ·have:=qX hm (of_decide_eq_true h52)
                  have e:at1 t x.to=decide (x.to<(t.insns.length:Int)):=by
                   unfold at1
                   rw[dcT (show x.to≥0 from this),Bool.true_and]
                  rw[e];rfl
                ·cases hs:(mD t x.a x.b).2
                 ·rfl
                 ·obtain⟨⟨y,hy,hem⟩,hw⟩:=hn hs
                  have:=nw hT hy hem
                  dsimp only[cdT,cdF,bnS,Bool.or_false,Bool.true_and]
                  rw[hw,f85_eq t x.n 0 _ (by
                   rw[←hw,bl (x:=(List.length e.ins:Int)+(List.length e.outs:Int)) oM oM,bl oM oM]
                   omega)]
                  rfl
               ·rfl
              ·rfl
             ·rfl
            ·rfl
           ·rfl
          ·rfl
         ·obtain⟨a1,a2,a3,a4⟩:=kz hm (of_decide_eq_true h32)
          rw[f92_eq t x.to x.m a1 oM oM a4 hl]
          rfl
        ·rfl
       ·rfl
      ·rfl
     ·rw[f85_eq t x.n x.m x.b (uY hm (.inr (of_decide_eq_true h6)))];rfl
    ·rw[f85_eq t x.n x.m x.b (uY hm (.inl (of_decide_eq_true h5)))];rfl
   ·rfl
  ·rfl
theorem gM:∀(N:Nat)(L:List Nat),L.Nodup→(∀x∈L,x<N)→L.length≤N
 |0,[],_,_=>Nat.le_refl _
 |0,x::L,_,h=>absurd (h x List.mem_cons_self) (Nat.not_lt_zero _)
 |N+1,L,hn,h=>by
  by_cases hm:N∈L
  ·have h1:=List.length_erase_of_mem hm
   have h2:=gM N (L.erase N) (hn.erase N) (λx hx=>by
    have h3:=h x (List.mem_of_mem_erase hx)
    have h4:x≠N:=λe=>by subst e;exact hn.not_mem_erase hx
    omega)
   omega
  ·have:=gM N L hn (λx hx=>by
    have h3:=h x hx
    have h4:x≠N:=λe=>hm (e▸hx)
    omega)
   omega
def szS(L:List Obj):Nat:=(L.map λo=>o.size.toNat).sum
theorem nT:∀(L:List Obj)(a:Int),(∀o∈L,1≤o.size∧o.size≤16384)→0≤a→a+16384*(L.length:Int)≤9223372036854775807→nU a L=a+(szS L:Int)
 |[],a,_,_,_=>by simp[nU,szS]
 |o::L,a,h,h0,h1=>by
  have ho:=h o List.mem_cons_self
  have hl:((o::L).length:Int)=(L.length:Int)+1:=sM
  rw[hl] at h1
  have ih:=nT L (a+o.size) (λx hx=>h x (List.mem_cons_of_mem _ hx)) oM oM
  have e1:nU a (o::L)=nU (a+o.size) L:=by
   show nU (IntKind.i64.wrap (a+o.size)) L=_
   rw[bl oM oM]
  have e2:szS (o::L)=o.size.toNat+szS L:=by simp[szS]
  rw[e1,ih,e2]
  push_cast
  omega
theorem jw{L:List Obj}{i:Nat}(h:i<L.length):szS (L.take (i+1))=szS (L.take i)+L[i].size.toNat:=by
 unfold szS
 rw[List.take_succ_eq_append_getElem h,List.map_append,List.sum_append,List.map_cons,List.map_nil,List.sum_cons,List.sum_nil,Nat.add_zero]
theorem lZ{L:List Obj}:∀{i j:Nat},i≤j→szS (L.take i)≤szS (L.take j):=by
 intro i j h
 induction h with
 |refl=>exact Nat.le_refl _
 |step h ih=>
  rename_i m
  by_cases hm:m<L.length
  ·rw[jw hm];omega
  ·have e:L.take (m+1)=L.take m:=by rw[List.take_of_length_le oM,List.take_of_length_le oM]
   rw[e];exact ih
def pos(os:List Obj)(x:ed):Nat:=szS (os.take x.o.toNat)+x.slot.toNat
theorem jk{os:List Obj}(ho:∀o∈os,1≤o.size∧o.size≤16384){x:ed}(h:eN os x=true):0≤x.o∧x.o.toNat<os.length∧0≤x.slot∧∀h:x.o.toNat<os.length,x.slot.toNat<os[x.o.toNat].size.toNat:=by
 unfold eN at h
 rw[Bool.and_eq_true] at h
 obtain⟨y,hy,h1,h2⟩:=jz h.1
 have hb:=eF hy
 have hsz:=ho y (ir hy)
 rw[bl oM oM] at h2
 refine⟨hb.1,oM,h1,λhh=>?_⟩
 have e:os[x.o.toNat]=y:=by
  have:=aw hh
  rw[show((x.o.toNat:Nat):Int)=x.o by omega,hy] at this
  exact(inS this).symm
 rw[e]
 omega
theorem uw{os:List Obj}(ho:∀o∈os,1≤o.size∧o.size≤16384){x:ed}(h:eN os x=true):pos os x<szS os:=by
 obtain⟨_,h1,_,h2⟩:=jk ho h
 have h3:=h2 h1
 have h4:=jw h1
 have h5:=lZ (L:=os) (i:=x.o.toNat+1) (j:=os.length) oM
 rw[List.take_length] at h5
 unfold pos
 omega
theorem wz{os:List Obj}(ho:∀o∈os,1≤o.size∧o.size≤16384){x y:ed}(hx:eN os x=true)(hy:eN os y=true)(h:pos os x=pos os y):x.o=y.o∧x.slot=y.slot:=by
 obtain⟨a0,a1,a2,a3⟩:=jk ho hx
 obtain⟨b0,b1,b2,b3⟩:=jk ho hy
 have a4:=a3 a1
 have b4:=b3 b1
 have a5:=jw a1
 have b5:=jw b1
 unfold pos at h
 rcases Nat.lt_trichotomy x.o.toNat y.o.toNat with hlt|heq|hgt
 ·have:=lZ (L:=os) (i:=x.o.toNat+1) (j:=y.o.toNat) hlt
  omega
 ·rw[heq] at h
  omega
 ·have:=lZ (L:=os) (i:=y.o.toNat+1) (j:=x.o.toNat) hgt
  omega
theorem gV{os:List Obj}(ho:∀o∈os,1≤o.size∧o.size≤16384):∀(r P:List ed),gf os P r=true→(∀x∈P,eN os x=true)→(P.map (pos os)).Nodup→((P++r).map (pos os)).Nodup∧∀x∈P++r,eN os x=true
 |[],P,_,h1,h2=>by rw[List.append_nil];exact⟨h2,h1⟩
 |x::r,P,h,h1,h2=>by
  rw[gf] at h
  simp only[Bool.and_eq_true] at h
  obtain⟨⟨hx,hP⟩,hr⟩:=h
  have ih:=gV ho r (P++ [x]) hr (λy hy=>by
   rcases List.mem_append.1 hy with hy|hy
   ·exact h1 y hy
   ·rw[List.mem_singleton] at hy;subst hy;exact hx) (by
   rw[List.map_append,List.nodup_append]
   refine⟨h2,sM,λa ha b hb=>?_⟩
   simp only[List.map_cons,List.map_nil,List.mem_singleton] at hb
   subst hb
   intro e
   obtain⟨y,hy,rfl⟩:=List.mem_map.1 ha
   have hi:=wz ho (h1 y hy) hx e
   have:=List.all_eq_true.1 hP y hy
   unfold neI at this
   rw[dcT hi.1,dcT hi.2] at this
   cases this)
  rw[List.append_assoc,List.singleton_append] at ih
  exact ih
theorem ku{os:List Obj}(h:os.all (d5 os)=true):∀o∈os,1≤o.size∧o.size≤16384:=λo ho=>by
 have:=List.all_eq_true.1 h o ho
 unfold d5 at this
 simp only[Bool.and_eq_true,Bool.not_eq_true',Bool.or_eq_false_iff,decide_eq_false_iff_not] at this
 omega
theorem f50_eq(t:ah)(hl:t.inits.length<9223372036854775808)(hs:∀o∈t.objs,o.set_.length<9223372036854775808):f50 t=some (gO t):=by
 unfold f50 gO
 cases h1:(decide ((t.objs.length:Int)>4096)||decide (t.excs<4))||decide (t.excs>64)
 ·have hol:(t.objs.length:Int)≤4096:=by
   simp only[Bool.or_eq_false_iff,decide_eq_false_iff_not] at h1
   omega
  rw[Bool.false_or,Bool.not_false,Bool.true_and]
  have hi:gf t.objs [] t.inits=dx t.objs [] t.inits:=ky t.objs t.inits []
  have core:f50_l1 t (λn111=>ak (λ(_:Unit)=>some (decide (n111≤65536))) λk122=>f50_l2 t k122 9223372036854775808 0) 9223372036854775808 0 0=some (t.objs.all (d5 t.objs)&&(dx t.objs [] t.inits&&decide (nU 0 t.objs≤65536))):=by
   rw[f50_l1_eq t _ oM hs _ 0 0 0 rfl (Nat.zero_le _) oM,List.drop_zero]
   cases t.objs.all (d5 t.objs)
   ·rfl
   ·rw[cdT,ap,f50_l2_eq t _ hl hs _ 0 0 rfl (Nat.zero_le _) oM,List.drop_zero,List.take_zero,hi]
    cases dx t.objs [] t.inits<;>rfl
  by_cases h2:(t.inits.length:Int)>65536
  ·rw[dcT h2,cdT]
   congr 1
   cases ha:t.objs.all (d5 t.objs)
   ·rfl
   ·have ho:=ku ha
    rw[Bool.true_and]
    cases hb:dx t.objs [] t.inits
    ·rfl
    ·rw[Bool.true_and]
     have hn:=gV ho t.inits [] (by rw[hi];exact hb) (λx hx=>by cases hx) List.nodup_nil
     rw[List.nil_append] at hn
     have hp:=gM (szS t.objs) (t.inits.map (pos t.objs)) hn.1 (λx hx=>by
      obtain⟨y,hy,rfl⟩:=List.mem_map.1 hx
      exact uw ho (hn.2 y hy))
     rw[List.length_map] at hp
     have hS:=nT t.objs 0 ho oM oM
     rw[dcF]
     omega
  ·rw[dcF h2,cdF,ap]
   exact core
 ·rw[Bool.true_or];rfl
theorem f25_l1_eq(t:ah)(r:Option Bool)(hT:dJ t=true)(hl:t.insns.length≤65536)(n:Nat)(hn:n=9223372036854775808):f25_l1 t (λ_=>r) n 0=bif t.insns.all (eY t) then r else some false:=by
 refine iT t.insns (f25_l1 t λ_=>r) r (eY t) n hn oM (λm i hi=>?_) (λm=>by rw[f25_l1,cG,cdF])
 rw[f25_l1,di hi,cdT,aw hi,bnS,fP hi oM,f56_eq t _ hT hl,bnS]
 cases eY t t.insns[i]<;>rfl
theorem f25_eq(t:ah)(h:Sz t)(ha:SzA t):f25 t=some (MayB t):=by
 unfold f25 MayB
 cases h1:decide ((t.insns.length:Int)<1)||decide ((t.insns.length:Int)>65536)
 ·have hol:(1:Int)≤t.insns.length∧(t.insns.length:Int)≤65536:=by
   simp only[Bool.or_eq_false_iff,decide_eq_false_iff_not] at h1
   omega
  rw[cdF,f50_eq t h.inits h.sets,f51_eq,f52_eq t h.checks,f54_eq,f55_eq]
  cases hO:gO t
  ·simp
  ·cases hT:dJ t
   ·simp
   ·have ho:∀o∈t.objs,1≤o.size∧o.size≤16384:=by
     unfold gO at hO
     simp only[Bool.and_eq_true] at hO
     exact ku hO.2.1
    rw[f53_eq t ha (λo y hy=>by have:=ho y (ir hy);omega)]
    obtain⟨x,hx,_⟩:=bd (L:=t.insns) (i:=(t.insns.length:Int) - 1) oM
    rw[ap,bl oM oM,f25_l1_eq t _ hT oM _ rfl]
    unfold rX
    rw[hx]
    dsimp only[bnS]
    have e:oe x=(((decide (x.op=29)||decide (x.op=33))||decide (x.op=34))||decide (x.op=57)):=by
     unfold oe
     simp only[Bool.or_assoc]
    rw[e]
    generalize(((decide (x.op=29)||decide (x.op=33))||decide (x.op=34))||decide (x.op=57))=b0
    generalize t.insns.all (eY t)=b9
    cases gL t
    ·simp
    ·cases gw t (-1) t.checks
     ·simp
     ·cases iG t
      ·simp
      ·cases gT t
       ·simp
       ·cases iK t
        ·simp
        ·cases pC t
         ·simp
         ·cases b0<;>cases b9<;>rfl
 ·rfl
abbrev Pl(a:Int):Prop:= -4611686018427387904≤a∧a<4611686018427387904
def jmp(x:aR):Bool:=((decide (x.op≥29))&&(decide (x.op≤32)))||(decide (x.op=52))
theorem ma{t:ah}{a:Int}(h:at1 t a=true)(hl:t.insns.length≤65536):Pl a:=by
 have:=cH.1 h
 constructor<;>omega
theorem mq{t:ah}:∀{L P:List aQ},fd t P L=true→∀x∈L,dQ t x=false
 |[],_,_,x,hx=>by cases hx
 |y::r,P,h,x,hx=>by
  rw[fd] at h
  simp only[Bool.and_eq_true,Bool.not_eq_true'] at h
  rcases List.mem_cons.1 hx with rfl|hx
  ·exact h.1.1
  ·exact mq h.2 x hx
theorem rV{t:ah}:∀{L:List Loop}{m:List (Int×Bool)},gS t m L=true→∀x∈L,qV t x=true
 |[],_,_,x,hx=>by cases hx
 |y::r,P,h,x,hx=>by
  rw[gS] at h
  simp only[Bool.and_eq_true] at h
  rcases List.mem_cons.1 hx with rfl|hx
  ·exact h.1.2
  ·exact rV h.2 x hx
theorem sD{t:ah}:∀{L:List d6}{last:Int},gw t last L=true→∀x∈L,chk t x.at_=true
 |[],_,_,x,hx=>by cases hx
 |y::r,P,h,x,hx=>by
  rw[gw] at h
  simp only[Bool.and_eq_true] at h
  rcases List.mem_cons.1 hx with rfl|hx
  ·exact h.1.1.2
  ·exact sD h.2 x hx
theorem vK{t:ah}{a:Int}(h:chk t a=true):∃x,idx t.insns a=some x∧(x.op=27∨x.op=28):=by
 unfold chk at h
 cases hx:idx t.insns a with
 |none=>rw[hx] at h;cases h
 |some x=>
  rw[hx] at h
  simp only[Bool.or_eq_true,decide_eq_true_eq] at h
  exact⟨x,rfl,h⟩
theorem vL{t:ah}{a:Int}(h:chk t a=true):0≤a∧a<t.insns.length:=by
 obtain⟨x,hx,_⟩:=vK h
 exact eF hx
theorem sE{t:ah}:∀(L:List d6)(last:Int),gw t last L=true→-1≤last→last<t.insns.length→(L.length:Int)+last+1≤t.insns.length
 |[],last,_,h1,h2=>by simp;omega
 |x::r,last,h,h1,h2=>by
  simp only[gw,Bool.and_eq_true,decide_eq_true_eq] at h
  have hx:=vL h.1.1.2
  have:=sE r x.at_ h.2 oM hx.2
  simp;omega
theorem tx{t:ah}(hm:gO t=true):t.inits.length≤65536:=by
 unfold gO at hm
 simp only[Bool.and_eq_true,Bool.not_eq_true',Bool.or_eq_false_iff,decide_eq_false_iff_not,decide_eq_true_eq] at hm
 obtain⟨h1,h2,h3,h4⟩:=hm
 have ho:=ku h2
 have hi:gf t.objs [] t.inits=true:=by rw[←h3];exact ky t.objs t.inits []
 obtain⟨n1,n2⟩:=gV ho t.inits [] hi sM sM
 rw[List.nil_append] at n1 n2
 have hp:=gM (szS t.objs) _ n1 (λx hx=>by
  obtain⟨y,hy,rfl⟩:=List.mem_map.1 hx
  exact uw ho (n2 y hy))
 rw[List.length_map] at hp
 rw[nT t.objs 0 ho oM oM] at h4
 omega
structure Bd(t:ah):Prop where
 n:1≤t.insns.length∧t.insns.length≤65536
 handlers:t.handlers.length≤4096
 loops:t.loops.length≤4096
 selects:t.selects.length≤1024
 alts:∀x∈t.selects,x.alts.length≤16
 lists:t.lists.length≤4096
 list:∀l∈t.lists,l.length≤32
 objs:t.objs.length≤4096
 sets:∀o∈t.objs,o.set_.length≤4096
 inits:t.inits.length≤65536
 tasks:t.tasks.length≤32
 entries:∀x∈t.tasks,x.entries.length≤8
 forms:∀x∈t.tasks,∀e∈x.entries,e.ins.length≤8∧e.outs.length≤8
 prots:t.prots.length≤32
 bars:∀p∈t.prots,p.barriers.length≤8∧∀b∈p.barriers,k9 t p.barriers.length b=true
 checks:t.checks.length≤65536
 plI:∀x∈t.insns,jmp x=true→Pl x.to
 plH:∀x∈t.handlers,Pl x.from_∧Pl x.to∧Pl x.at_
 okH:∀x∈t.handlers,x.from_<x.to
 plL:∀x∈t.loops,Pl x.head∧Pl x.back
 plA:∀x∈t.selects,∀a∈x.alts,Pl a.at_
 plE:∀x∈t.selects,Pl x.else_
 plK:∀x∈t.tasks,Pl x.at_
 plC:∀x∈t.checks,Pl x.at_
theorem zI{t:ah}{x:aR}(hf:eY t x=true)(hl:t.insns.length≤65536)(hj:jmp x=true):Pl x.to:=by
 unfold eY at hf
 rw[Bool.and_eq_true] at hf
 obtain⟨hm,hf⟩:=hf
 unfold jmp at hj
 simp only[Bool.or_eq_true,Bool.and_eq_true,decide_eq_true_eq] at hj
 by_cases h32:x.op=32
 ·have:=kz hm h32
  constructor<;>omega
 ·by_cases h52:x.op=52
  ·have h0:=qX hm h52
   rw[h52] at hf
   simp at hf
   constructor<;>omega
  ·have h3:x.op=29∨x.op=30∨x.op=31:=oM
   rcases h3 with h3|h3|h3
   all_goals
    rw[h3] at hf
    simp at hf
    exact ma hf hl
theorem Bd.of{t:ah}(hs:Sz t)(h:MayB t=true):Bd t:=by
 have hv:=xZ hs h
 unfold MayB at h
 simp only[Bool.and_eq_true,Bool.not_eq_true',Bool.or_eq_false_iff,decide_eq_false_iff_not,List.all_eq_true] at h
 obtain⟨hn,hlast,hobj,htask,hlist,hprot,hsel,hhdl,hlp,hck,hfit⟩:=h
 have hl:t.insns.length≤65536:=oM
 have htask':=htask
 unfold dJ at htask
 unfold gT at hlist
 unfold gL at hprot
 unfold iG at hsel
 unfold iK at hhdl
 unfold pC at hlp
 simp only[Bool.and_eq_true,Bool.not_eq_true',Bool.or_eq_false_iff,decide_eq_false_iff_not,decide_eq_true_eq,List.all_eq_true] at htask hlist hprot hsel hhdl hlp
 have hH:=mq hhdl.2
 have hL:=rV hlp.2
 have hC:=sD hck
 refine⟨hv.n,oM,oM,oM,?_,oM,?_,hv.objs,λo ho=>by have:=(hv.o ho).2.2.2;omega,tx hobj,oM,?_,λx hx e he=>by have:=nw htask' hx he;omega,oM,?_,?_,λx hx hj=>zI (hfit x hx) hl hj,?_,?_,?_,?_,?_,?_,?_⟩
 ·intro x hx
  have:=hsel.2 x hx
  unfold fu at this
  simp only[Bool.and_eq_true,Bool.not_eq_true',Bool.or_eq_false_iff,decide_eq_false_iff_not] at this
  omega
 ·intro l hl
  have:=hlist.2 l hl
  unfold jJ at this
  simp only[Bool.and_eq_true,Bool.not_eq_true',decide_eq_false_iff_not] at this
  omega
 ·intro x hx
  have:=htask.2 x hx
  unfold fb at this
  simp only[Bool.and_eq_true,Bool.not_eq_true',Bool.or_eq_false_iff,decide_eq_false_iff_not] at this
  omega
 ·intro p hp
  have:=hprot.1 p hp
  unfold gc at this
  simp only[Bool.and_eq_true,Bool.not_eq_true',Bool.or_eq_false_iff,decide_eq_false_iff_not,List.all_eq_true] at this
  exact⟨oM,this.2⟩
 ·have:=sE t.checks (-1) hck oM oM
  omega
 ·intro x hx
  have:=hH x hx
  unfold dQ at this
  simp only[Bool.or_eq_false_iff,Bool.not_eq_false',decide_eq_false_iff_not] at this
  have h2:=ma this.1.2 hl
  exact⟨⟨oM,oM⟩,⟨oM,oM⟩,h2⟩
 ·intro x hx
  have:=hH x hx
  unfold dQ at this
  simp only[Bool.or_eq_false_iff,Bool.not_eq_false',decide_eq_false_iff_not] at this
  omega
 ·intro x hx
  have:=hL x hx
  unfold qV at this
  simp only[Bool.and_eq_true,Bool.or_eq_false_iff,Bool.not_eq_true',Bool.not_eq_false',decide_eq_false_iff_not] at this
  have h2:=cH.1 this.1.1.2
  exact⟨⟨oM,oM⟩,⟨oM,oM⟩⟩
 ·intro x hx a ha
  have:=hsel.2 x hx
  unfold fu at this
  simp only[Bool.and_eq_true,List.all_eq_true] at this
  have:=this.2 a ha
  unfold fA at this
  simp only[Bool.and_eq_true] at this
  exact ma this.1.1 hl
 ·intro x hx
  have:=hsel.2 x hx
  unfold fu at this
  simp only[Bool.and_eq_true,Bool.not_eq_true',Bool.or_eq_false_iff,Bool.and_eq_false_iff,Bool.not_eq_false',decide_eq_true_eq] at this
  rcases this.1.2 with h1|h1
  ·constructor<;>omega
  ·exact ma h1 hl
 ·intro x hx
  have:=htask.2 x hx
  unfold fb at this
  simp only[Bool.and_eq_true,Bool.not_eq_true',Bool.or_eq_false_iff,Bool.not_eq_false'] at this
  exact ma this.1.1.1.1.2 hl
 ·intro x hx
  have:=vL (hC x hx)
  constructor<;>omega
abbrev Asc(l:List Int):Prop:=l.Pairwise (·<·)
def ins(n:Int):List Int→List Int
 |[]=> [n]
 |x::l=>if n<x then n::x::l else if n=x then x::l else x::ins n l
theorem lr{n z:Int}:∀{l:List Int},z∈ins n l↔z=n∨z∈l
 |[]=>by simp[ins]
 |x::l=>by
  unfold ins
  split
  ·simp
  ·split
   ·rename_i h;subst h;simp
   ·rw[List.mem_cons,lr,List.mem_cons]
    constructor
    ·rintro(h|h|h)
     ·exact .inr (.inl h)
     ·exact .inl h
     ·exact .inr (.inr h)
    ·rintro(h|h|h)
     ·exact .inr (.inl h)
     ·exact .inl h
     ·exact .inr (.inr h)
theorem om{n:Int}:∀{l:List Int},Asc l→Asc (ins n l)
 |[],_=>by simp[ins]
 |x::l,h=>by
  have h1:=List.pairwise_cons.1 h
  unfold ins
  split
  ·rename_i hx
   exact List.pairwise_cons.2 ⟨λz hz=>by
    rcases List.mem_cons.1 hz with rfl|hz
    ·exact hx
    ·have:=h1.1 z hz;omega,h⟩
  ·split
   ·exact h
   ·exact List.pairwise_cons.2 ⟨λz hz=>by
     rcases lr.1 hz with rfl|hz
     ·omega
     ·exact h1.1 z hz,om h1.2⟩
theorem sf{n:Int}:∀{l:List Int},(ins n l).length≤l.length+1
 |[]=>by simp[ins]
 |x::l=>by
  unfold ins
  split
  ·simp
  ·split
   ·simp
   ·have:=sf (n:=n) (l:=l)
    simp;omega
theorem fU{L M:List Int}(h:L.length+M.length≤1000000):bw 8 L M=true:=sK dC oM
theorem w1n{i:Nat}(h:i≤1000000):IntKind.i64.wrap ((i:Int)+1)=((i+1:Nat):Int):=by rw[w64 oM oM];push_cast;rfl
theorem ltb{i n:Nat}(h:i<n):decide ((i:Int)<(n:Int))=true:=dcT oM
theorem ltf{i n:Nat}(h:¬i<n):decide ((i:Int)<(n:Int))=false:=dcF oM
theorem f70_l1_eq(l:List Int)(n:Int)(K:Bool→List Int→Option (List Int))(hl:l.length≤100000)(hK:∀d lw,lw.length≤100001→K d lw=some (lw++if d=true then[] else[n])):
  ∀(m i:Nat)(d:Bool)(acc:List Int),i≤l.length→l.length<m+i→acc.length≤i+(if d=true then 1 else 0)→f70_l1 l n K m d (i:Int) acc=some (acc++if d=true then l.drop i else ins n (l.drop i))
 |0,i,_,_,_,h,_=>oM
 |m+1,i,d,acc,hi,hm,ha=>by
  rw[f70_l1]
  have hacc:acc.length≤100001:=by split at ha<;>omega
  by_cases hlt:i<l.length
  ·rw[ltb hlt,cdT,az,br hlt,List.drop_eq_getElem_cons hlt,w1n oM]
   simp only[bnS]
   cases d with
   |true=>
    rw[Bool.not_true,cdF,bnS,cdF,aX _ (fU (by simp;omega)),f70_l1_eq l n K hl hK m (i+1) true _ oM oM (by simp at ha⊢;omega)]
    simp
   |false=>
    simp only[Bool.not_false,cdT,bnS,Bool.false_eq_true,if_false] at ha⊢
    by_cases h1:n≤l[i]
    ·rw[dcT h1,cdT,az]
     by_cases h2:n<l[i]
     ·rw[dcT h2,cdT,aX _ (fU (by simp;omega))]
      dsimp only
      rw[aX _ (fU (by simp;omega)),f70_l1_eq l n K hl hK m (i+1) true _ oM oM (by simp;omega)]
      rw[ins,if_pos h2]
      simp
     ·rw[dcF h2,cdF]
      dsimp only
      rw[aX _ (fU (by simp;omega)),f70_l1_eq l n K hl hK m (i+1) true _ oM oM (by simp;omega)]
      rw[ins,if_neg h2,if_pos (show n=l[i] by omega)]
      simp
    ·rw[dcF h1,cdF,aX _ (fU (by simp;omega)),f70_l1_eq l n K hl hK m (i+1) false _ oM oM (by simp;omega)]
     rw[ins,if_neg (show¬n<l[i] by omega),if_neg (show¬n=l[i] by omega)]
     simp
  ·rw[ltf hlt,cdF,hK _ _ hacc,List.drop_eq_nil_of_le oM]
   cases d<;>rfl
theorem f70_eq(l:List Int)(n:Int)(hl:l.length≤100000):f70 l n=some (ins n l):=by
 unfold f70
 obtain⟨F,hF⟩:∃F:Nat,F=9223372036854775808:=⟨_,rfl⟩
 rw[az,←hF]
 have:=f70_l1_eq l n (λdone51 lw52=>ak (λlw80=>some lw80) λk82=>bif !done51 then aO (bw 8 lw52 [n]) (k82 (lw52++ [n])) else k82 lw52) hl (λd lw h=>by
  rw[az]
  cases d with
  |true=>simp
  |false=>rw[Bool.not_false,cdT,aX _ (fU (by simp;omega))];simp) F 0 false [] (Nat.zero_le _) oM sM
 simpa using this
def hd(t:ah)(a:Int)(clean:Bool):Int×Bool:=match t.handlers.find? (λh=>f127 h a clean) with
 |some h=>(h.at_,true)
 |none=>(0,false)
theorem f126_l1_eq(H:List aQ)(p:aQ→Bool)(hl:H.length≤1000000):∀(n i:Nat),i≤H.length→H.length<n+i→∃r,f126_l1 H (λz=>some (p z)) (λ_=>some (-1)) n (i:Int)=some r∧((r= -1∧(H.drop i).find? p=none)∨(0≤r∧∃h,idx H r=some h∧(H.drop i).find? p=some h))
 |0,i,_,h=>oM
 |n+1,i,hi,hn=>by
  rw[f126_l1]
  by_cases hlt:i<H.length
  ·rw[ltb hlt,cdT,br hlt,bnS,bnS,List.drop_eq_getElem_cons hlt,List.find?_cons]
   cases hp:p H[i] with
   |true=>exact⟨_,rfl, .inr ⟨oM,_,br hlt,rfl⟩⟩
   |false=>
    rw[cdF,w1n oM]
    exact f126_l1_eq H p hl n (i+1) oM oM
  ·rw[ltf hlt,cdF,List.drop_eq_nil_of_le oM]
   exact⟨_,rfl, .inl ⟨rfl,rfl⟩⟩
theorem f75_eq(t:ah)(a:Int)(c:Bool)(hl:t.handlers.length≤1000000):f75 t a c=some (hd t a c):=by
 obtain⟨r,h1,h2⟩:=f126_l1_eq t.handlers (λh=>f127 h a c) hl (Int.toNat ((List.length t.handlers:Int) - 0)+1) 0 (Nat.zero_le _) oM
 unfold f75 f126 hd
 rw[show((0:Nat):Int)=0 from rfl] at h1
 rw[az,h1,bnS]
 rw[List.drop_zero] at h2
 rcases h2 with⟨rfl,h2⟩|⟨h0,h,h3,h4⟩
 ·rw[h2];rfl
 ·rw[h4,dcF oM,cdF,h3];rfl
theorem f125_l1_eq(t:ah)(a c:Int)(hc:c≠0)(hl:t.handlers.length≤1000000):∀(n i:Nat),i≤t.handlers.length→t.handlers.length<n+i→∃r,f125_l1 t a c (λ_=>some (-1)) n (i:Int)=some r∧((r= -1∧(t.handlers.drop i).find? (λh=>f127 h a (!decide (c>0)))=none)∨(0≤r∧∃h,idx t.handlers r=some h∧(t.handlers.drop i).find? (λh=>f127 h a (!decide (c>0)))=some h))
 |0,i,_,h=>oM
 |n+1,i,hi,hn=>by
  rw[f125_l1]
  by_cases hlt:i<t.handlers.length
  ·rw[ltb hlt,dcF hc,Bool.not_false,Bool.true_and,cdT,br hlt,bnS,List.drop_eq_getElem_cons hlt,List.find?_cons]
   have e:(((decide (t.handlers[i].from_≤a))&&(decide (a<t.handlers[i].to)))&&((decide (c>0))||t.handlers[i].clean))=f127 t.handlers[i] a (!decide (c>0)):=by
    unfold f127
    rw[Bool.not_not,Bool.or_comm]
   rw[e]
   cases hp:f127 t.handlers[i] a (!decide (c>0)) with
   |true=>exact⟨_,rfl, .inr ⟨oM,_,br hlt,rfl⟩⟩
   |false=>
    rw[cdF,w1n oM]
    exact f125_l1_eq t a c hc hl n (i+1) oM oM
  ·rw[ltf hlt,Bool.false_and,cdF,List.drop_eq_nil_of_le oM]
   exact⟨_,rfl, .inl ⟨rfl,rfl⟩⟩
theorem f73_eq(t:ah)(a c:Int)(hc:c≠0)(hl:t.handlers.length≤1000000):f73 t a c=some (hd t a (!decide (c>0))):=by
 obtain⟨F,hF⟩:∃F:Nat,F=9223372036854775808:=⟨_,rfl⟩
 obtain⟨r,h1,h2⟩:=f125_l1_eq t a c hc hl F 0 (Nat.zero_le _) oM
 unfold f73 f125 hd
 rw[show((0:Nat):Int)=0 from rfl] at h1
 rw[az,←hF,h1,bnS]
 rw[List.drop_zero] at h2
 rcases h2 with⟨rfl,h2⟩|⟨h0,h,h3,h4⟩
 ·rw[h2];rfl
 ·rw[h4,dcF oM,cdF,h3];rfl
def L10:List Int:=[27,28,33,34,35,38,49,50,53,54]
theorem yb:L10.length=10:=rfl
theorem f72_l1_eq(o:Int):∀(n i:Nat),i≤10→10<n+i→f72_l1 o (λ_=>some false) n (i:Int)=some ((L10.drop i).any λx:Int=>decide (x=o))
 |0,i,_,h=>oM
 |n+1,i,hi,hn=>by
  have e:f72_l1 o (λ_=>some false) (n+1) (i:Int)=(bif decide ((i:Int)<(L10.length:Int)) then Option.bind (idx L10 (i:Int)) λx24=>(bif decide (x24=o) then some true else f72_l1 o (λ_=>some false) n (IntKind.i64.wrap ((i:Int)+1))) else some false):=rfl
  rw[e]
  by_cases hlt:i<L10.length
  ·rw[ltb hlt,cdT,br hlt,bnS,List.drop_eq_getElem_cons hlt,List.any_cons]
   cases decide (L10[i]=o) with
   |true=>rfl
   |false=>
    rw[yb] at hlt
    rw[cdF,w1n oM,Bool.false_or]
    exact f72_l1_eq o n (i+1) oM oM
  ·rw[ltf hlt,cdF,List.drop_eq_nil_of_le oM];rfl
theorem f72_eq(o:Int):f72 o=some (f76 o):=by
 obtain⟨F,hF⟩:∃F:Nat,F=9223372036854775808:=⟨_,rfl⟩
 unfold f72
 have h0:=f72_l1_eq o F 0 oM oM
 rw[show((0:Nat):Int)=0 from rfl,List.drop_zero] at h0
 rw[az,←hF,h0]
 congr 1
 unfold f76
 simp only[az,L10,List.any_cons,List.any_nil]
 by_cases h1:o=27
 ·subst h1;rfl
 by_cases h2:o=28
 ·subst h2;rfl
 by_cases h3:o=33
 ·subst h3;rfl
 by_cases h4:o=34
 ·subst h4;rfl
 by_cases h5:o=35
 ·subst h5;rfl
 by_cases h6:o=38
 ·subst h6;rfl
 by_cases h7:o=49
 ·subst h7;rfl
 by_cases h8:o=50
 ·subst h8;rfl
 by_cases h9:o=53
 ·subst h9;rfl
 simp only[dcF h1,dcF h2,dcF h3,dcF h4,dcF h5,dcF h6,dcF h7,dcF h8,dcF h9,cdF,Bool.false_or,dcF (Ne.symm h1),dcF (Ne.symm h2),dcF (Ne.symm h3),dcF (Ne.symm h4),dcF (Ne.symm h5),dcF (Ne.symm h6),dcF (Ne.symm h7),dcF (Ne.symm h8),dcF (Ne.symm h9),Bool.or_false]
 by_cases h:o=54
 ·subst h;rfl
 ·rw[dcF h,dcF (Ne.symm h)];rfl
theorem dP{κ α:Type}{k:κ}{f:κ→α}{b:α}(P:κ→Prop)(hk:P k)(hf:∀k',P k'→f k'=b):ak k f=b:=hf k hk
def srt(l:List Int):List Int:=Lib.compact (l.mergeSort λx y=>decide (x≤y))
theorem nV{l:List Int}{z:Int}:z∈srt l↔z∈l:=by
 unfold srt
 rw[pY,List.mem_mergeSort]
theorem nW(l:List Int):Asc (srt l):=by
 refine pZ ?_
 have:=List.pairwise_mergeSort (le:=λx y:Int=>decide (x≤y)) (λa b c h1 h2=>by simp at*;omega) (λa b=>by simp;omega) l
 exact List.Pairwise.imp (λh=>by simpa using h) this
def jB(o:Int):Bool:=decide (o=29)||(decide (o=30)||(decide (o=31)||decide (o=52)))
def sB(o:Int):Bool:=decide (o=29)||(decide (o=33)||(decide (o=34)||(decide (o=50)||(decide (o=52)||decide (o=57)))))
def c1(t:ah)(a:Int)(x:aR):List Int:=bif sB x.op then[] else bif decide (a+1<(t.insns.length:Int)) then[a+1] else[]
def jtL(x:aR)(n:Nat):List Int:=(List.range n).map λi:Nat=>IntKind.i64.wrap (x.to+(i:Int))
def seL(t:ah)(n:Int):List Int:=match idx t.selects n with
 |some s=>s.alts.map (·.at_)++(bif decide (s.else_≥0) then[s.else_] else[])
 |none=> []
def hdL(r:Int×Bool):List Int:=bif r.2 then[r.1] else[]
def c2(t:ah)(a:Int)(x:aR):List Int:=bif jB x.op then[x.to] else bif decide (x.op=32) then jtL x x.m.toNat else bif decide (x.op=50) then seL t x.n else[]
def c4(t:ah)(a:Int)(x:aR):List Int:=bif decide (x.op=35) then hdL (hd t a true) else[]
def c3(t:ah)(a:Int)(x:aR):List Int:=bif f76 x.op then hdL (hd t a false) else[]
def nx(t:ah)(a:Int):List Int:=match idx t.insns a with
 |some x=>srt (c1 t a x++(c2 t a x++(c4 t a x++c3 t a x)))
 |none=> []
structure Ok1(t:ah)(x:aR):Prop where
 m:x.op=32→0≤x.m∧x.m≤65536∧0≤x.to∧x.to≤65535
 sel:x.op=50→∃s,idx t.selects x.n=some s∧s.alts.length≤16∧(s.else_= -1∨0≤s.else_)
theorem sj(r:Int×Bool):(hdL r).length≤1:=by
 unfold hdL
 cases r.2<;>simp
theorem f39_l1_eq(x:aR)(K:List Int→Option (List Int))(hm:0≤x.m∧x.m≤65536)(ht:0≤x.to∧x.to≤65535):∀(n i:Nat)(l:List Int),(i:Int)≤x.m→x.m<n+i→l.length≤10+i→f39_l1 x K n (i:Int) l=K (l++((List.range' i (x.m.toNat - i)).map λj:Nat=>IntKind.i64.wrap (x.to+(j:Int))))
 |0,i,_,_,h,_=>oM
 |n+1,i,l,hi,hn,hl=>by
  rw[f39_l1]
  by_cases hlt:(i:Int)<x.m
  ·obtain⟨k,hk⟩:∃k,x.m.toNat - i=k+1:=⟨x.m.toNat - i - 1,oM⟩
   rw[dcT hlt,cdT,az,aX _ (fU (by simp;omega)),w1n oM,f39_l1_eq x K hm ht n (i+1) _ (by push_cast;omega) (by push_cast;omega) (by simp;omega),hk,List.range'_succ,show x.m.toNat - (i+1)=k by omega]
   simp
  ·rw[dcF hlt,cdF,show x.m.toNat - i=0 by omega]
   simp
theorem f39_l2_eq(s:cg)(K:List Int→Option (List Int))(hs:s.alts.length≤16):∀(n i:Nat)(l:List Int),i≤s.alts.length→s.alts.length<n+i→l.length≤10+i→f39_l2 s K n (i:Int) l=K (l++(s.alts.drop i).map (·.at_))
 |0,i,_,_,h,_=>oM
 |n+1,i,l,hi,hn,hl=>by
  rw[f39_l2]
  by_cases hlt:i<s.alts.length
  ·rw[ltb hlt,cdT,br hlt,bnS,az,aX _ (fU (by simp;omega)),w1n oM,f39_l2_eq s K hs n (i+1) _ oM oM (by simp;omega),List.drop_eq_getElem_cons hlt,List.map_cons,List.append_assoc]
   rfl
  ·rw[ltf hlt,cdF,List.drop_eq_nil_of_le oM]
   simp
theorem f39_eq(t:ah)(a:Int)(x:aR)(hx:idx t.insns a=some x)(hI:t.insns.length≤65536)(hH:t.handlers.length≤4096)(ho:Ok1 t x):f39 t a=some (nx t a):=by
 have ha:=eF hx
 have e0:nx t a=srt (c1 t a x++(c2 t a x++(c4 t a x++c3 t a x))):=by unfold nx;rw[hx]
 rw[e0]
 unfold f39
 rw[hx,bnS]
 have h4l:(c4 t a x).length≤1:=by unfold c4;cases decide (x.op=35) with|true=>exact sj _|false=>simp
 have h3l:(c3 t a x).length≤1:=by unfold c3;cases f76 x.op with|true=>exact sj _|false=>simp
 refine dP (λk:List Int→Option (List Int)=>∀l:List Int,l.length≤2→k l=some (srt (l++(c2 t a x++(c4 t a x++c3 t a x))))) (λl hl=>?_) λk118 h118=>?_
 ·refine dP (λk:List Int→Option (List Int)=>∀l:List Int,l.length≤80000→k l=some (srt (l++c3 t a x))) (λl' hl'=>?_) λk127 h127=>?_
  ·refine dP (λk:List Int→Option (List Int)=>∀l:List Int,l.length≤90000→k l=some (srt l)) (λl2 hl2=>?_) λk173 h173=>?_
   ·unfold f34 f41 srt
    rw[aX _ (dcT oM),bnS,bnS]
   ·unfold c3
    cases hr:f76 x.op with
    |false=>rw[cdF,cdF,List.append_nil];exact h173 l' oM
    |true=>
     rw[cdT,cdT,f75_eq t a false oM,bnS,az,az]
     unfold hdL
     cases (hd t a false).2 with
     |true=>rw[cdT,cdT,aX _ (fU (by simp;omega))];exact h173 _ (by simp;omega)
     |false=>rw[cdF,cdF,List.append_nil];exact h173 l' oM
  ·refine dP (λk:Bool→Option (List Int)=>∀b,b=jB x.op→k b=some (srt (l++(c2 t a x++(c4 t a x++c3 t a x))))) (λb hb=>?_) λk129 h129=>?_
   ·subst hb
    show(bif jB x.op then _ else _)=_
    cases hj:jB x.op with
    |true=>
     have h35:¬x.op=35:=λe=>by rw[e] at hj;revert hj;decide
     have e2:c2 t a x=[x.to]:=by unfold c2;rw[hj];rfl
     have e4:c4 t a x=[]:=by unfold c4;rw[dcF h35];rfl
     rw[cdT,az,aX _ (fU (by simp;omega)),h127 _ (by simp;omega),e2,e4]
     simp
    |false=>
     rw[cdF]
     by_cases h32:x.op=32
     ·have h35:¬x.op=35:=oM
      have e4:c4 t a x=[]:=by unfold c4;rw[dcF h35];rfl
      have e2:c2 t a x=jtL x x.m.toNat:=by unfold c2;rw[hj,dcT h32];rfl
      obtain⟨m1,m2,m3,m4⟩:=ho.m h32
      have hloop:=f39_l1_eq x k127 ⟨m1,m2⟩ ⟨m3,m4⟩ (Int.toNat (x.m - 0)+1) 0 l oM oM oM
      rw[show((0:Nat):Int)=0 from rfl] at hloop
      rw[dcT h32,cdT,hloop,e2,e4,h127 _ (by simp;omega)]
      unfold jtL
      rw[List.range_eq_range']
      simp
     ·by_cases h50:x.op=50
      ·have h35:¬x.op=35:=oM
       have e4:c4 t a x=[]:=by unfold c4;rw[dcF h35];rfl
       obtain⟨s,s1,s2,s3⟩:=ho.sel h50
       have e2:c2 t a x=s.alts.map (·.at_)++(bif decide (s.else_≥0) then[s.else_] else[]):=by unfold c2 seL;rw[hj,dcF h32,dcT h50,s1];rfl
       have hloop:=λK=>f39_l2_eq s K s2 (Int.toNat ((List.length s.alts:Int) - 0)+1) 0 l (Nat.zero_le _) oM oM
       rw[show((0:Nat):Int)=0 from rfl] at hloop
       rw[dcF h32,cdF,dcT h50,cdT,s1,bnS,az,hloop,List.drop_zero,az,az,e2,e4]
       cases decide (s.else_≥0) with
       |true=>rw[cdT,cdT,aX _ (fU (by simp;omega)),h127 _ (by simp;omega)];simp
       |false=>rw[cdF,cdF,h127 _ (by simp;omega)];simp
      ·have e2:c2 t a x=[]:=by unfold c2;rw[hj,dcF h32,dcF h50];rfl
       rw[dcF h32,cdF,dcF h50,cdF,e2]
       unfold c4
       by_cases h35:x.op=35
       ·rw[dcT h35,cdT,cdT,f75_eq t a true oM,bnS,az,az]
        unfold hdL
        cases (hd t a true).2 with
        |true=>rw[cdT,cdT,aX _ (fU (by simp;omega)),h127 _ (by simp;omega)];simp
        |false=>rw[cdF,cdF,h127 _ oM];simp
       ·rw[dcF h35,cdF,cdF,h127 _ oM];simp
   ·by_cases e1:x.op=29
    ·rw[dcT e1,cdT];exact h129 _ (by rw[e1];rfl)
    by_cases e2:x.op=30
    ·rw[dcF e1,cdF,dcT e2,cdT];exact h129 _ (by rw[e2];rfl)
    by_cases e3:x.op=31
    ·rw[dcF e1,cdF,dcF e2,cdF,dcT e3,cdT];exact h129 _ (by rw[e3];rfl)
    rw[dcF e1,cdF,dcF e2,cdF,dcF e3,cdF]
    exact h129 _ (by unfold jB;rw[dcF e1,dcF e2,dcF e3];simp)
 ·refine dP (λk:Bool→Option (List Int)=>∀b,b=sB x.op→k b=some (srt (c1 t a x++(c2 t a x++(c4 t a x++c3 t a x))))) (λb hb=>?_) λk120 h120=>?_
  ·subst hb
   show(bif sB x.op then _ else _)=_
   unfold c1
   cases sB x.op with
   |true=>rw[cdT,cdT];exact h118 [] sM
   |false=>
    rw[cdF,cdF,az,az,w64 (x:=a+1) oM oM]
    cases decide (a+1<(t.insns.length:Int)) with
    |true=>rw[cdT,cdT,aX _ (fU sM)];exact h118 _ sM
    |false=>rw[cdF,cdF];exact h118 [] sM
  ·have hs:∀b,b=sB x.op→k120 b=some (srt (c1 t a x++(c2 t a x++(c4 t a x++c3 t a x)))):=h120
   by_cases e1:x.op=29
   ·rw[dcT e1,cdT];exact hs _ (by rw[e1];rfl)
   by_cases e2:x.op=33
   ·rw[dcF e1,cdF,dcT e2,cdT];exact hs _ (by rw[e2];rfl)
   by_cases e3:x.op=34
   ·rw[dcF e1,cdF,dcF e2,cdF,dcT e3,cdT];exact hs _ (by rw[e3];rfl)
   by_cases e4:x.op=50
   ·rw[dcF e1,cdF,dcF e2,cdF,dcF e3,cdF,dcT e4,cdT];exact hs _ (by rw[e4];rfl)
   by_cases e5:x.op=52
   ·rw[dcF e1,cdF,dcF e2,cdF,dcF e3,cdF,dcF e4,cdF,dcT e5,cdT];exact hs _ (by rw[e5];rfl)
   rw[dcF e1,cdF,dcF e2,cdF,dcF e3,cdF,dcF e4,cdF,dcF e5,cdF]
   exact hs _ (by unfold sB;rw[dcF e1,dcF e2,dcF e3,dcF e4,dcF e5];simp)
theorem Aa:lk 50=[(78,106)]:=by decide+kernel
theorem zP{x:aR}(h:gW x=true)(ho:x.op=50):0≤x.n:=by
 unfold gW at h
 rw[ho,Aa] at h
 simp only[Bool.and_eq_true] at h
 have:=h.2.2
 simp only[fl,rng,f157] at this
 simp at this
 omega
theorem Ok1.of{t:ah}(h:MayB t=true){x:aR}(hx:x∈t.insns):Ok1 t x:=by
 unfold MayB at h
 simp only[Bool.and_eq_true,Bool.not_eq_true',Bool.or_eq_false_iff,decide_eq_false_iff_not,List.all_eq_true] at h
 obtain⟨hn,hlast,hobj,htask,hlist,hprot,hsel,hhdl,hlp,hck,hfit⟩:=h
 have hf:=hfit x hx
 unfold eY at hf
 rw[Bool.and_eq_true] at hf
 refine⟨λh32=>?_,λh50=>?_⟩
 ·have:=kz hf.1 h32
  omega
 ·have h5:=hf.2
  rw[h50] at h5
  simp at h5
  have hn0:0≤x.n:=zP hf.1 h50
  obtain⟨k,hk⟩:=Int.eq_ofNat_of_zero_le hn0
  have hkl:k<t.selects.length:=oM
  unfold iG at hsel
  simp only[Bool.and_eq_true,Bool.not_eq_true',List.all_eq_true] at hsel
  have hs:=hsel.2 _ (List.getElem_mem hkl)
  unfold fu at hs
  simp only[Bool.and_eq_true,Bool.not_eq_true',Bool.or_eq_false_iff,decide_eq_false_iff_not] at hs
  refine⟨t.selects[k],by rw[hk];exact br hkl,oM,?_⟩
  by_cases he:t.selects[k].else_= -1
  ·exact .inl he
  ·have:=hs.1.2
   rw[dcF he] at this
   simp at this
   exact .inr (cH.1 this).1
structure Sof(S l:List Int)(n:Nat):Prop where
 asc:Asc l
 mem:∀z,z∈l↔z∈S
 len:l.length≤n
theorem Sof.ins{S l:List Int}{n:Nat}(h:Sof S l n)(z:Int):Sof (S++ [z]) (ins z l) (n+1):=
 ⟨om h.asc,λy=>by rw[lr,h.mem,List.mem_append,List.mem_singleton];exact Or.comm,by have:=sf (n:=z) (l:=l);have:=h.len;omega⟩
theorem Sof.eq{S l T:List Int}{n:Nat}(h:Sof S l n)(hT:∀z,z∈S↔z∈T):l=srt T:=jS h.asc (nW T) λz=>by rw[h.mem,nV,hT]
theorem Sof.nil:Sof [] [] 0:=⟨sM,sM,sM⟩
theorem f38_l1_eq(x:aR)(K:List Int→Option (List Int))(r:Option (List Int))(hm:0≤x.m∧x.m≤65536):∀(n i k:Nat)(S l:List Int),Sof S l k→(i:Int)≤x.m→x.m<n+i→k≤10+i→(∀l',Sof (S++((List.range' i (x.m.toNat - i)).map λj:Nat=>IntKind.i64.wrap (x.to+(j:Int)))) l' 70000→K l'=r)→f38_l1 x K n l (i:Int)=r
 |0,i,_,_,_,_,_,h,_,_=>oM
 |n+1,i,k,S,l,hs,hi,hn,hk,hK=>by
  rw[f38_l1]
  by_cases hlt:(i:Int)<x.m
  ·obtain⟨k',hk'⟩:∃k,x.m.toNat - i=k+1:=⟨x.m.toNat - i - 1,oM⟩
   rw[hk',List.range'_succ,List.map_cons] at hK
   rw[dcT hlt,cdT,f70_eq _ _ (by have:=hs.len;omega),bnS,w1n oM]
   refine f38_l1_eq x K r hm n (i+1) (k+1) _ _ (hs.ins _) (by push_cast;omega) (by push_cast;omega) oM λl' h'=>hK l' ?_
   rw[show x.m.toNat - (i+1)=k' by omega] at h'
   simpa using h'
  ·rw[dcF hlt,cdF]
   refine hK l ?_
   rw[show x.m.toNat - i=0 by omega]
   exact⟨hs.asc,by simpa using hs.mem,by have:=hs.len;omega⟩
theorem f38_l2_eq(s:cg)(K:List Int→Option (List Int))(r:Option (List Int))(hm:s.alts.length≤16):∀(n i k:Nat)(S l:List Int),Sof S l k→i≤s.alts.length→s.alts.length<n+i→k≤10+i→(∀l',Sof (S++(s.alts.drop i).map (·.at_)) l' 30→K l'=r)→f38_l2 s K n l (i:Int)=r
 |0,i,_,_,_,_,_,h,_,_=>oM
 |n+1,i,k,S,l,hs,hi,hn,hk,hK=>by
  rw[f38_l2]
  by_cases hlt:i<s.alts.length
  ·rw[List.drop_eq_getElem_cons hlt,List.map_cons] at hK
   rw[ltb hlt,cdT,br hlt,bnS,f70_eq _ _ (by have:=hs.len;omega),bnS,w1n oM]
   refine f38_l2_eq s K r hm n (i+1) (k+1) _ _ (hs.ins _) oM oM oM λl' h'=>hK l' ?_
   simpa using h'
  ·rw[ltf hlt,cdF]
   refine hK l ?_
   rw[List.drop_eq_nil_of_le oM]
   exact⟨hs.asc,by simpa using hs.mem,by have:=hs.len;omega⟩
theorem Sof.app{S l T:List Int}{n:Nat}(h:Sof S l n)(hT:T=[]):Sof (S++T) l n:=by subst hT;rwa [List.append_nil]
theorem Sof.le{S l:List Int}{n m:Nat}(h:Sof S l n)(hm:n≤m):Sof S l m:=⟨h.asc,h.mem,by have:=h.len;omega⟩
theorem f38_eq(t:ah)(a:Int)(x:aR)(hx:idx t.insns a=some x)(hI:t.insns.length≤65536)(hH:t.handlers.length≤4096)(ho:Ok1 t x):f38 t a=some (nx t a):=by
 have ha:=eF hx
 have e0:nx t a=srt (c1 t a x++(c2 t a x++(c4 t a x++c3 t a x))):=by unfold nx;rw[hx]
 obtain⟨F,hF⟩:∃F:Nat,F=9223372036854775808:=⟨_,rfl⟩
 rw[e0]
 unfold f38
 rw[hx,bnS,←hF]
 refine dP (λk:List Int→Option (List Int)=>∀l:List Int,Sof (c1 t a x) l 2→k l=some (srt (c1 t a x++(c2 t a x++(c4 t a x++c3 t a x))))) (λl hl=>?_) λk146 h146=>?_
 ·refine dP (λk:List Int→Option (List Int)=>∀l:List Int,Sof (c1 t a x++c2 t a x) l 80000→k l=some (srt (c1 t a x++(c2 t a x++(c4 t a x++c3 t a x))))) (λl' hl'=>?_) λk149 h149=>?_
  ·refine dP (λk:List Int→Option (List Int)=>∀l:List Int,Sof (c1 t a x++c2 t a x++c3 t a x) l 80001→k l=some (srt (c1 t a x++(c2 t a x++(c4 t a x++c3 t a x))))) (λl2 hl2=>?_) λk173 h173=>?_
   ·have hfin:∀l3 n,Sof (c1 t a x++c2 t a x++c3 t a x++c4 t a x) l3 n→some l3=some (srt (c1 t a x++(c2 t a x++(c4 t a x++c3 t a x)))):=λl3 n h=>by
     rw[h.eq (T:=c1 t a x++(c2 t a x++(c4 t a x++c3 t a x)))]
     intro z
     simp only[List.mem_append]
     constructor
     ·rintro(((h|h)|h)|h)
      ·exact .inl h
      ·exact .inr (.inl h)
      ·exact .inr (.inr (.inr h))
      ·exact .inr (.inr (.inl h))
     ·rintro(h|h|h|h)
      ·exact .inl (.inl (.inl h))
      ·exact .inl (.inl (.inr h))
      ·exact .inr h
      ·exact .inl (.inr h)
    rw[az]
    by_cases h35:x.op=35
    ·have e4:c4 t a x=hdL (hd t a true):=by unfold c4;rw[dcT h35];rfl
     rw[dcT h35,cdT,f73_eq t a (-1) dC oM,bnS,show(!decide ((-1:Int)>0))=true from rfl]
     unfold hdL at e4
     cases hr:(hd t a true).2 with
     |true=>
      rw[hr,cdT] at e4
      rw[cdT,f70_eq _ _ (by have:=hl2.len;omega),bnS]
      refine hfin _ 80002 ?_
      rw[e4]
      exact hl2.ins _
     |false=>
      rw[hr,cdF] at e4
      rw[cdF]
      exact hfin _ _ (hl2.app e4)
    ·have e4:c4 t a x=[]:=by unfold c4;rw[dcF h35];rfl
     rw[dcF h35,cdF]
     exact hfin _ _ (hl2.app e4)
   ·rw[f72_eq,bnS]
    cases hr:f76 x.op with
    |false=>
     rw[cdF]
     exact h173 _ ((hl'.app (by unfold c3;rw[hr];rfl)).le oM)
    |true=>
     have e3:c3 t a x=hdL (hd t a false):=by unfold c3;rw[hr];rfl
     rw[cdT,f73_eq t a 1 dC oM,bnS,show(!decide ((1:Int)>0))=false from rfl]
     unfold hdL at e3
     cases hr:(hd t a false).2 with
     |true=>
      rw[hr,cdT] at e3
      rw[cdT,f70_eq _ _ (by have:=hl'.len;omega),bnS]
      refine h173 _ ?_
      rw[e3]
      exact hl'.ins _
     |false=>
      rw[hr,cdF] at e3
      rw[cdF]
      exact h173 _ ((hl'.app e3).le oM)
  ·refine dP (λk:Bool→Option (List Int)=>∀b,b=jB x.op→k b=some (srt (c1 t a x++(c2 t a x++(c4 t a x++c3 t a x))))) (λb hb=>?_) λk151 h151=>?_
   ·subst hb
    show(bif jB x.op then _ else _)=_
    cases hj:jB x.op with
    |true=>
     have e2:c2 t a x=[x.to]:=by unfold c2;rw[hj];rfl
     rw[cdT,f70_eq _ _ (by have:=hl.len;omega),bnS]
     refine h149 _ ?_
     rw[e2]
     exact(hl.ins _).le oM
    |false=>
     rw[cdF]
     by_cases h32:x.op=32
     ·have e2:c2 t a x=jtL x x.m.toNat:=by unfold c2;rw[hj,dcT h32];rfl
      obtain⟨m1,m2,m3,m4⟩:=ho.m h32
      rw[dcT h32,cdT,show(0:Int)=((0:Nat):Int) from rfl]
      refine f38_l1_eq x k149 _ ⟨m1,m2⟩ F 0 2 _ l hl oM oM oM λl' h'=>h149 _ ?_
      rw[e2]
      unfold jtL
      rw[List.range_eq_range']
      exact h'.le oM
     ·by_cases h50:x.op=50
      ·obtain⟨s,s1,s2,s3⟩:=ho.sel h50
       have e2:c2 t a x=s.alts.map (·.at_)++(bif decide (s.else_≥0) then[s.else_] else[]):=by unfold c2 seL;rw[hj,dcF h32,dcT h50,s1];rfl
       rw[dcF h32,cdF,dcT h50,cdT,s1,bnS,az,show(0:Int)=((0:Nat):Int) from rfl]
       refine f38_l2_eq s _ _ s2 F 0 2 _ l hl oM oM oM λl' h'=>?_
       rw[List.drop_zero] at h'
       rcases s3 with s3|s3
       ·rw[s3] at e2⊢
        rw[show(!decide ((-1:Int)= -1))=false from rfl,cdF]
        refine h149 _ ?_
        rw[e2,show decide ((-1:Int)≥0)=false from rfl,cdF,List.append_nil]
        exact h'.le oM
       ·rw[dcT (show s.else_≥0 from s3),cdT] at e2
        rw[dcF (show¬s.else_= -1 by omega),Bool.not_false,cdT,f70_eq _ _ (by have:=h'.len;omega),bnS]
        refine h149 _ ?_
        rw[e2,←List.append_assoc]
        exact(h'.ins _).le oM
      ·have e2:c2 t a x=[]:=by unfold c2;rw[hj,dcF h32,dcF h50];rfl
       rw[dcF h32,cdF,dcF h50,cdF]
       exact h149 _ ((hl.app e2).le oM)
   ·by_cases e1:x.op=29
    ·rw[dcT e1,cdT];exact h151 _ (by rw[e1];rfl)
    by_cases e2:x.op=30
    ·rw[dcF e1,cdF,dcT e2,cdT];exact h151 _ (by rw[e2];rfl)
    by_cases e3:x.op=31
    ·rw[dcF e1,cdF,dcF e2,cdF,dcT e3,cdT];exact h151 _ (by rw[e3];rfl)
    rw[dcF e1,cdF,dcF e2,cdF,dcF e3,cdF]
    exact h151 _ (by unfold jB;rw[dcF e1,dcF e2,dcF e3];simp)
 ·have hnil:c1 t a x=[]→k146 []=some (srt (c1 t a x++(c2 t a x++(c4 t a x++c3 t a x)))):=λe=>h146 [] (by rw[e];exact Sof.nil.le oM)
  rw[w64 (x:=a+1) oM oM]
  by_cases hs:sB x.op=true
  ·have hcond:(((((((decide (a+1<(t.insns.length:Int)))&&(!decide (x.op=29)))&&(!decide (x.op=33)))&&(!decide (x.op=34)))&&(!decide (x.op=50)))&&(!decide (x.op=52)))&&(!decide (x.op=57)))=false:=by
    unfold sB at hs
    simp only[Bool.or_eq_true,decide_eq_true_eq] at hs
    simp only[Bool.and_eq_false_iff,Bool.not_eq_false',decide_eq_true_eq]
    rcases hs with h|h|h|h|h|h<;>simp[h]
   rw[hcond,cdF]
   exact hnil (by unfold c1;rw[hs];rfl)
  ·have hs':sB x.op=false:=by simpa using hs
   have hcond:(((((((decide (a+1<(t.insns.length:Int)))&&(!decide (x.op=29)))&&(!decide (x.op=33)))&&(!decide (x.op=34)))&&(!decide (x.op=50)))&&(!decide (x.op=52)))&&(!decide (x.op=57)))=decide (a+1<(t.insns.length:Int)):=by
    unfold sB at hs'
    simp only[Bool.or_eq_false_iff] at hs'
    obtain⟨h1,h2,h3,h4,h5,h6⟩:=hs'
    rw[h1,h2,h3,h4,h5,h6]
    simp
   rw[hcond]
   cases hlt:decide (a+1<(t.insns.length:Int)) with
   |false=>rw[cdF];exact hnil (by unfold c1;rw[hs',hlt];rfl)
   |true=>
    rw[cdT,f70_eq _ _ sM,bnS]
    refine h146 _ ?_
    have e:c1 t a x=[]++ [a+1]:=by unfold c1;rw[hs',hlt];rfl
    rw[e]
    exact(Sof.nil.ins _).le oM
theorem Ad{t:ah}{x:aR}(h:eY t x=true)(ho:x.op=52):x.to<(t.insns.length:Int):=by
 unfold eY at h
 rw[Bool.and_eq_true] at h
 have:=h.2
 rw[ho] at this
 simp at this
 exact this.2
theorem u9{t:ah}{x:aR}(h:eY t x=true)(ho:x.op=29∨x.op=30∨x.op=31):at1 t x.to=true:=by
 unfold eY at h
 rw[Bool.and_eq_true] at h
 have:=h.2
 rcases ho with ho|ho|ho
 all_goals
  rw[ho] at this
  simp at this
  exact this
theorem Ae{t:ah}{x:aR}(h:eY t x=true)(ho:x.op=32):x.to+x.m≤(t.insns.length:Int):=by
 unfold eY at h
 rw[Bool.and_eq_true] at h
 have:=h.2
 have hm:=kz h.1 ho
 rw[ho] at this
 simp[zH] at this
 have h1:=this.1
 rw[w64 oM oM] at h1
 exact h1
theorem zJ{o:Int}:jB o=true↔o=29∨o=30∨o=31∨o=52:=by
 unfold jB
 simp only[Bool.or_eq_true,decide_eq_true_eq]
structure GT(t:ah):Prop where
 n39:∀a:Int,0≤a→a<t.insns.length→f39 t a=some (nx t a)
 n38:∀a:Int,0≤a→a<t.insns.length→f38 t a=some (nx t a)
 rng:∀a z:Int,z∈nx t a→0≤z∧z<t.insns.length
 le:t.insns.length≤100
theorem qR(t:ah)(a:Int):Asc (nx t a):=by
 unfold nx
 split
 ·exact nW _
 ·simp
theorem sh{t:ah}(hH:∀x∈t.handlers,dQ t x=false){a z:Int}{c:Bool}(hz:z∈hdL (hd t a c)):0≤z∧z<t.insns.length:=by
 unfold hd hdL at hz
 cases hf:t.handlers.find? (λh=>f127 h a c) with
 |none=>rw[hf] at hz;simp at hz
 |some h=>
  rw[hf] at hz
  have hz':z=h.at_:=by simpa using hz
  have hb:=hH h (List.mem_of_find?_eq_some hf)
  unfold dQ at hb
  simp only[Bool.or_eq_false_iff,Bool.not_eq_false'] at hb
  rw[hz']
  exact cH.1 hb.1.2
theorem GT.of{t:ah}(hs:Sz t)(h:MayB t=true)(hN:t.insns.length≤100):GT t:=by
 have hb:=Bd.of hs h
 have key:∀a:Int,0≤a→a<t.insns.length→∃x,idx t.insns a=some x∧x∈t.insns:=λa h0 h1=>by
  obtain⟨k,rfl⟩:=Int.eq_ofNat_of_zero_le h0
  exact⟨_,br oM,List.getElem_mem _⟩
 refine⟨λa h0 h1=>?_,λa h0 h1=>?_,λa z hz=>?_,hN⟩
 ·obtain⟨x,hx,hm⟩:=key a h0 h1
  exact f39_eq t a x hx hb.n.2 hb.handlers (Ok1.of h hm)
 ·obtain⟨x,hx,hm⟩:=key a h0 h1
  exact f38_eq t a x hx hb.n.2 hb.handlers (Ok1.of h hm)
 ·unfold MayB at h
  simp only[Bool.and_eq_true,Bool.not_eq_true',Bool.or_eq_false_iff,decide_eq_false_iff_not,List.all_eq_true] at h
  obtain⟨hn,hlast,hobj,htask,hlist,hprot,hsel,hhdl,hlp,hck,hfit⟩:=h
  unfold iK at hhdl
  simp only[Bool.and_eq_true] at hhdl
  have hH:=mq hhdl.2
  unfold nx at hz
  cases hx:idx t.insns a with
  |none=>rw[hx] at hz;simp at hz
  |some x=>
   have ha:=eF hx
   have hf:=hfit x (ir hx)
   rw[hx] at hz
   simp only[nV,List.mem_append] at hz
   rcases hz with hz|hz|hz|hz
   ·unfold c1 at hz
    cases hsb:sB x.op with
    |true=>rw[hsb,cdT] at hz;simp at hz
    |false=>
     rw[hsb,cdF] at hz
     by_cases hlt:a+1<(t.insns.length:Int)
     ·rw[dcT hlt,cdT] at hz
      have:z=a+1:=by simpa using hz
      omega
     ·rw[dcF hlt,cdF] at hz;simp at hz
   ·unfold c2 at hz
    cases hj:jB x.op with
    |true=>
     rw[hj,cdT] at hz
     have hz':z=x.to:=by simpa using hz
     rw[hz']
     rcases zJ.1 hj with e|e|e|e
     ·exact cH.1 (u9 hf (.inl e))
     ·exact cH.1 (u9 hf (.inr (.inl e)))
     ·exact cH.1 (u9 hf (.inr (.inr e)))
     ·have h1:=Ad hf e
      unfold eY at hf
      rw[Bool.and_eq_true] at hf
      exact⟨qX hf.1 e,h1⟩
    |false=>
     rw[hj,cdF] at hz
     by_cases h32:x.op=32
     ·rw[dcT h32,cdT] at hz
      unfold jtL at hz
      obtain⟨i,hi,rfl⟩:=List.mem_map.1 hz
      have hi:=List.mem_range.1 hi
      have h1:=Ae hf h32
      unfold eY at hf
      rw[Bool.and_eq_true] at hf
      have h2:=kz hf.1 h32
      rw[w64 oM oM]
      omega
     ·rw[dcF h32,cdF] at hz
      by_cases h50:x.op=50
      ·rw[dcT h50,cdT] at hz
       unfold seL at hz
       cases hs:idx t.selects x.n with
       |none=>rw[hs] at hz;simp at hz
       |some s=>
        rw[hs] at hz
        unfold iG at hsel
        simp only[Bool.and_eq_true,Bool.not_eq_true',List.all_eq_true] at hsel
        have hso:=hsel.2 s (ir hs)
        unfold fu at hso
        simp only[Bool.and_eq_true,Bool.not_eq_true',Bool.or_eq_false_iff,decide_eq_false_iff_not,List.all_eq_true] at hso
        simp only[List.mem_append] at hz
        rcases hz with hz|hz
        ·obtain⟨y,hy,rfl⟩:=List.mem_map.1 hz
         have:=hso.2 y hy
         unfold fA at this
         simp only[Bool.and_eq_true] at this
         exact cH.1 this.1.1
        ·by_cases he:s.else_≥0
         ·rw[dcT he,cdT] at hz
          have hz':z=s.else_:=by simpa using hz
          have h3:=hso.1.2
          rw[dcF (show¬s.else_= -1 by omega)] at h3
          simp at h3
          rw[hz']
          exact cH.1 h3
         ·rw[dcF he,cdF] at hz;simp at hz
      ·rw[dcF h50,cdF] at hz;simp at hz
   ·unfold c4 at hz
    cases hq:decide (x.op=35) with
    |true=>rw[hq,cdT] at hz;exact sh hH hz
    |false=>rw[hq,cdF] at hz;simp at hz
   ·unfold c3 at hz
    cases hq:f76 x.op with
    |true=>rw[hq,cdT] at hz;exact sh hH hz
    |false=>rw[hq,cdF] at hz;simp at hz
inductive Rc(t:ah)(f:Int):Int→Prop
 |base:Rc t f f
 |step {a b:Int}:Rc t f a→b∈nx t a→Rc t f b
theorem Rc.rng{t:ah}(g:GT t){f:Int}(hf:0≤f∧f<t.insns.length){z:Int}(h:Rc t f z):0≤z∧z<t.insns.length:=by
 cases h with
 |base=>exact hf
 |step _ h=>exact g.rng _ _ h
theorem ff{l:List Int}(h:Asc l):l.Nodup:=List.Pairwise.imp (λh=>oM) h
theorem eL{l:List Int}{N:Nat}(hn:l.Nodup)(h:∀z∈l,0≤z∧z<N):l.length≤N:=by
 have:=gM N (l.map Int.toNat) (by
  unfold List.Nodup
  rw[List.pairwise_map]
  refine List.Pairwise.imp_of_mem (λ{a b} ha hb hab=>?_) hn
  have:=h a ha
  have:=h b hb
  omega) (λx hx=>by
   obtain⟨z,hz,rfl⟩:=List.mem_map.1 hx
   have:=h z hz
   omega)
 simpa using this
theorem ge{t:ah}(g:GT t)(a:Int):(nx t a).length≤100:=Nat.le_trans (eL (ff (qR t a)) (g.rng a)) g.le
structure Sf(S l:List Int):Prop where
 asc:Asc l
 mem:∀z,z∈l↔z∈S
theorem Sf.ins{S l:List Int}(h:Sf S l)(z:Int):Sf (S++ [z]) (ins z l):=
 ⟨om h.asc,λy=>by rw[lr,h.mem,List.mem_append,List.mem_singleton];exact Or.comm⟩
theorem Sf.len{S l:List Int}(h:Sf S l){N:Nat}(hN:N≤100)(hS:∀z∈S,0≤z∧z<(N:Int)):l.length≤100:=Nat.le_trans (eL (ff h.asc) λz hz=>hS z ((h.mem z).1 hz)) hN
theorem f35_l3_eq{N:Nat}(hN:N≤100)(K:List Int→Option (List Int))(R:List Int)(r:Option (List Int))(hR:R.length≤100)(hRr:∀z∈R,0≤z∧z<(N:Int)):∀(n i:Nat)(S l:List Int),Sf S l→(∀z∈S,0≤z∧z<(N:Int))→i≤R.length→R.length<n+i→(∀l',Sf (S++R.drop i) l'→K l'=r)→f35_l3 K R n l (i:Int)=r
 |0,i,_,_,_,_,_,h,_=>oM
 |n+1,i,S,l,hs,hS,hi,hn,hK=>by
  rw[f35_l3]
  by_cases hlt:i<R.length
  ·rw[List.drop_eq_getElem_cons hlt] at hK
   rw[ltb hlt,cdT,br hlt,bnS,f70_eq _ _ (by have:=hs.len hN hS;omega),bnS,w1n oM]
   refine f35_l3_eq hN K R r hR hRr n (i+1) _ _ (hs.ins _) (λz hz=>?_) oM oM λl' h'=>hK l' (by simpa using h')
   rcases List.mem_append.1 hz with hz|hz
   ·exact hS z hz
   ·rw[List.mem_singleton.1 hz];exact hRr _ (List.getElem_mem hlt)
  ·rw[ltf hlt,cdF]
   refine hK l ?_
   rw[List.drop_eq_nil_of_le oM,List.append_nil]
   exact hs
theorem f35_l2_eq{t:ah}(g:GT t)(L:List Int)(K:List Int→Option (List Int))(r:Option (List Int))(hL:L.length≤100)(hLr:∀z∈L,0≤z∧z<(t.insns.length:Int))(B:Nat)(hB:B=9223372036854775808):∀(n i:Nat)(S l:List Int),Sf S l→(∀z∈S,0≤z∧z<(t.insns.length:Int))→i≤L.length→L.length<n+i→(∀l',Sf (S++(L.drop i).flatMap (nx t)) l'→K l'=r)→f35_l2 t L K n l (i:Int)=r
 |0,i,_,_,_,_,_,h,_=>oM
 |n+1,i,S,l,hs,hS,hi,hn,hK=>by
  rw[f35_l2,←hB]
  by_cases hlt:i<L.length
  ·rw[List.drop_eq_getElem_cons hlt,List.flatMap_cons] at hK
   have h0:=hLr _ (List.getElem_mem hlt)
   rw[ltb hlt,cdT,az,br hlt,bnS,g.n38 _ h0.1 h0.2,bnS,show(0:Int)=((0:Nat):Int) from rfl]
   have hx:=ge g L[i]
   refine f35_l3_eq g.le _ _ r hx (g.rng _) B 0 S l hs hS (Nat.zero_le _) oM λl' h'=>?_
   rw[List.drop_zero] at h'
   rw[w1n oM]
   refine f35_l2_eq g L K r hL hLr B hB n (i+1) _ _ h' (λz hz=>?_) oM oM λl2 h2=>hK l2 (by simpa using h2)
   rcases List.mem_append.1 hz with hz|hz
   ·exact hS z hz
   ·exact g.rng _ _ hz
  ·rw[ltf hlt,cdF]
   refine hK l ?_
   rw[List.drop_eq_nil_of_le oM]
   simpa using hs
theorem jh:∀{A B:List Int},A.Nodup→(∀z∈A,z∈B)→A.length≤B.length
 |[],_,_,_=>sM
 |x::A,B,hn,h=>by
  have hx:=h x sM
  have hn':=List.nodup_cons.1 hn
  have:=jh (A:=A) (B:=B.erase x) hn'.2 λz hz=>by
   have hzx:z≠x:=λe=>hn'.1 (e▸hz)
   exact(List.mem_erase_of_ne hzx).2 (h z (by simp[hz]))
  rw[List.length_erase_of_mem hx] at this
  have:=List.length_pos_of_mem hx
  simp;omega
theorem oa{A B:List Int}(hA:A.Nodup)(h:∀z∈A,z∈B)(hl:B.length≤A.length):∀z∈B,z∈A:=by
 intro z hz
 by_cases hza:z∈A
 ·exact hza
 ·have:=jh (A:=z::A) (B:=B) (List.nodup_cons.2 ⟨hza,hA⟩) λy hy=>by
   rcases List.mem_cons.1 hy with rfl|hy
   ·exact hz
   ·exact h y hy
  simp at this;omega
structure RL(t:ah)(f:Int)(R:List Int):Prop where
 asc:Asc R
 mem:∀z,z∈R↔Rc t f z
theorem f35_l1_eq{t:ah}(g:GT t){f:Int}(hf:0≤f∧f<t.insns.length)(B:Nat)(hB:B=9223372036854775808):∀(k n:Nat)(l:List Int),t.insns.length - l.length≤k→k<n→Asc l→f∈l→(∀z∈l,Rc t f z)→∃R,f35_l1 t n l=some R∧RL t f R
 |k,0,_,_,h,_,_,_=>oM
 |k,n+1,l,hk,hn,ha,hfl,hr=>by
  have hlr:∀z∈l,0≤z∧z<(t.insns.length:Int):=λz hz=>(hr z hz).rng g hf
  have hll:l.length≤100:=Nat.le_trans (eL (ff ha) hlr) g.le
  have hmore:∀l',Sf (l++l.flatMap (nx t)) l'→∃R,(bif decide ((List.length l':Int)=(List.length l:Int)) then some l else f35_l1 t n l')=some R∧RL t f R:=λl' h'=>by
   have hsub:∀z∈l,z∈l':=λz hz=>(h'.mem z).2 (by simp[hz])
   have hr':∀z∈l',Rc t f z:=λz hz=>by
    rcases List.mem_append.1 ((h'.mem z).1 hz) with hz|hz
    ·exact hr z hz
    ·obtain⟨a,h1,h2⟩:=List.mem_flatMap.1 hz
     exact .step (hr a h1) h2
   by_cases hl:l'.length=l.length
   ·rw[dcT oM,cdT]
    refine⟨l,rfl,ha,λz=>⟨hr z,λhz=>?_⟩⟩
    have hback:=oa (ff ha) hsub oM
    induction hz with
    |base=>exact hfl
    |step _ h2 ih=>exact hback _ ((h'.mem _).2 (List.mem_append_right _ (List.mem_flatMap.2 ⟨_,ih,h2⟩)))
   ·rw[dcF oM,cdF]
    have h1:=jh (ff ha) hsub
    have h2:=eL (ff h'.asc) λz hz=>(hr' z hz).rng g hf
    exact f35_l1_eq g hf B hB (k - 1) n l' oM oM h'.asc (hsub f hfl) hr'
  obtain⟨l',hl'⟩:∃l',Sf (l++l.flatMap (nx t)) l':=⟨srt (l++l.flatMap (nx t)),nW _,λz=>nV⟩
  obtain⟨R,h1,h2⟩:=hmore l' hl'
  refine⟨R,?_,h2⟩
  rw[f35_l1,←hB,az,az,show(0:Int)=((0:Nat):Int) from rfl]
  refine f35_l2_eq g l _ _ hll hlr B hB B 0 l l ⟨ha,λz=>Iff.rfl⟩ hlr (Nat.zero_le _) oM λl2 h3=>?_
  rw[List.drop_zero] at h3
  have:l2=l':=jS h3.asc hl'.asc λz=>by rw[h3.mem,hl'.mem]
  rw[this]
  exact h1
theorem f35_eq{t:ah}(g:GT t){f:Int}(hf:0≤f∧f<t.insns.length):∃R,f35 t f=some R∧RL t f R:=by
 obtain⟨B,hB⟩:∃F:Nat,F=9223372036854775808:=⟨_,rfl⟩
 have hg:=g.le
 unfold f35
 rw[←hB]
 exact f35_l1_eq g hf B hB 100 B [f] (by simp;omega) oM sM sM λz hz=>by rw[List.mem_singleton.1 hz];exact .base
def kys{α:Type}(m:List (Int×α)):List Int:=m.map (·.1)
theorem tw{α:Type}{m:List (Int×α)}{k:Int}{v:α}(h:aA m k=some v):(k,v)∈m:=by
 induction m with
 |nil=>cases h
 |cons p r ih=>
  rw[aA] at h
  by_cases hp:p.1=k
  ·rw[if_pos hp] at h
   obtain rfl:=inS h
   subst hp
   exact List.mem_cons_self
  ·rw[if_neg hp] at h
   exact List.mem_cons_of_mem _ (ih h)
theorem jH{α:Type}{m:List (Int×α)}{k:Int}:aA m k=none↔k∉kys m:=by
 induction m with
 |nil=>simp[aA,kys]
 |cons p r ih=>
  rw[aA]
  by_cases hp:p.1=k
  ·rw[if_pos hp];subst hp;simp[kys]
  ·rw[if_neg hp,ih]
   simp[kys,Ne.symm hp]
theorem uF{α:Type}{m:List (Int×α)}{k:Int}{v:α}(h:k∉kys m):aS m k v=m++ [(k,v)]:=by
 induction m with
 |nil=>rfl
 |cons p r ih=>
  have h1:¬p.1=k:=λe=>h (by simp[kys,e])
  have h2:k∉kys r:=λe=>h (by simp[kys] at e⊢;exact .inr e)
  rw[aS,if_neg h1,ih h2];rfl
def ct(inn:List (Int×Int))(x:Int):Int:=Option.getD (aA inn x) 0
theorem f10_l2_eq(m:List (Int×List Int))(x:Int)(r:List Int)(K:List (Int×Int)→Option (List al×Int))(hr:r.Nodup)(hl:r.length≤1000):∀(n i:Nat)(inn:List (Int×Int)),(∀z,0≤ct inn z∧ct inn z≤1000+i)→i≤r.length→r.length<n+i→∃inn',f10_l2 m x r K n (i:Int) inn=K inn'∧∀z,ct inn' z=ct inn z+(if z∈r.drop i then 1 else 0)
 |0,i,_,_,_,h=>oM
 |n+1,i,inn,hc,hi,hn=>by
  rw[f10_l2]
  have e:Option.getD (aA (aS m x r) x) []=r:=by rw[eE,if_pos rfl];rfl
  rw[e]
  by_cases hlt:i<r.length
  ·have h0:=hc r[i]
   rw[ltb hlt,cdT,br hlt,bnS,w1n oM,show Option.getD (aA inn r[i]) 0=ct inn r[i] from rfl,w64 (x:=ct inn r[i]+1) oM oM]
   have hput:∀z,ct (aS inn r[i] (ct inn r[i]+1)) z=ct inn z+(if r[i]=z then 1 else 0):=λz=>by
    unfold ct
    rw[eE]
    by_cases hz:r[i]=z
    ·subst hz;simp
    ·simp[hz]
   obtain⟨inn',h1,h2⟩:=f10_l2_eq m x r K hr hl n (i+1) (aS inn r[i] (ct inn r[i]+1)) (λz=>by
    rw[hput]
    have:=hc z
    split<;>(push_cast;omega)) oM oM
   refine⟨inn',h1,λz=>?_⟩
   rw[h2,hput,List.drop_eq_getElem_cons hlt,Int.add_assoc]
   congr 1
   have hnd:r[i]∉r.drop (i+1):=by
    have:=hr.sublist (List.drop_sublist i r)
    rw[List.drop_eq_getElem_cons hlt] at this
    exact(List.nodup_cons.1 this).1
   by_cases hz:r[i]=z
   ·subst hz;rw[if_neg hnd,if_pos rfl,if_pos List.mem_cons_self];rfl
   ·rw[if_neg hz,Int.zero_add]
    by_cases hq:z∈r.drop (i+1)
    ·rw[if_pos hq,if_pos (List.mem_cons_of_mem _ hq)]
    ·rw[if_neg hq,if_neg λh=>by
      rcases List.mem_cons.1 h with h|h
      ·exact hz h.symm
      ·exact hq h]
  ·rw[ltf hlt,cdF]
   refine⟨inn,rfl,λz=>?_⟩
   rw[List.drop_eq_nil_of_le oM]
   simp
structure DI(t:ah)(f:Int)(m:List (Int×List Int))(inn:List (Int×Int))(todo:List Int):Prop where
 nd:(kys m).Nodup
 val:∀p∈m,p.2=nx t p.1
 rc:∀k∈kys m,Rc t f k
 tr:∀z∈todo,Rc t f z
 st:f∈kys m∨f∈todo
 cl:∀k∈kys m,∀b∈nx t k,b∈kys m∨b∈todo
 cnt:∀x,ct inn x=(((kys m).filter λk=>decide (x∈nx t k)).length:Int)
theorem jL{α:Type}(m:List (Int×α))(k:Int)(v:α):kys (m++ [(k,v)])=kys m++ [k]:=by simp[kys]
theorem f10_l1_eq{t:ah}(g:GT t){f:Int}(hf:0≤f∧f<t.insns.length)(K:List (Int×List Int)→List (Int×Int)→List Int→Option (List al×Int)):∀(n:Nat)(m:List (Int×List Int))(inn:List (Int×Int))(todo:List Int),DI t f m inn todo→(t.insns.length - m.length)*101+todo.length<n→todo.length≤1+100*m.length→∃m' inn',DI t f m' inn' []∧f10_l1 t K n m inn todo=K m' inn' []
 |0,_,_,_,_,h,_=>oM
 |n+1,m,inn,todo,hd,hn,ht=>by
  have hml:m.length≤t.insns.length:=by
   have:=eL hd.nd λz hz=>(hd.rc z hz).rng g hf
   simpa[kys] using this
  have hle:=g.le
  rw[f10_l1]
  rcases List.eq_nil_or_concat todo with rfl|⟨lo,x,rfl⟩
  ·rw[dcF sM,cdF]
   exact⟨m,inn,hd,rfl⟩
  ·simp only[List.concat_eq_append] at hd hn ht⊢
   simp only[List.length_append,List.length_singleton] at hn ht
   have hx:=hd.tr x sM
   have hxr:=hx.rng g hf
   have hwl:IntKind.i64.wrap (((lo++ [x]).length:Int) - 1)=(lo.length:Int):=by
    rw[w64 (by simp only[List.length_append,List.length_singleton];omega) (by simp only[List.length_append,List.length_singleton];omega)];simp
   have htk:List.take (Int.toNat (lo.length:Int)) (lo++ [x])=lo:=sM
   rw[dcT (show((lo++ [x]).length:Int)>0 by simp only[List.length_append,List.length_singleton];omega),cdT,az,hwl,br (show lo.length<(lo++ [x]).length by simp),bnS,htk,aX _ (by simp[bT];omega)]
   have hge:(lo++ [x])[lo.length]'sM=x:=sM
   rw[hge]
   by_cases hk:x∈kys m
   ·have hs:Option.isSome (aA m x)=true:=by
     cases hm:aA m x with
     |none=>exact absurd hk (jH.1 hm)
     |some _=>rfl
    rw[hs,cdT]
    refine f10_l1_eq g hf K n m inn lo ⟨hd.nd,hd.val,hd.rc,λz hz=>hd.tr z (by simp[hz]),?_,λk hk' b hb=>?_,hd.cnt⟩ oM oM
    ·rcases hd.st with h|h
     ·exact .inl h
     ·rcases List.mem_append.1 h with h|h
      ·exact .inr h
      ·rw[List.mem_singleton.1 h];exact .inl hk
    ·rcases hd.cl k hk' b hb with h|h
     ·exact .inl h
     ·rcases List.mem_append.1 h with h|h
      ·exact .inr h
      ·rw[List.mem_singleton.1 h];exact .inl hk
   ·have hs:Option.isSome (aA m x)=false:=by rw[jH.2 hk];rfl
    have e:Option.getD (aA (aS m x (nx t x)) x) []=nx t x:=by rw[eE,if_pos rfl];rfl
    have hnl:=ge g x
    rw[hs,cdF,g.n39 x hxr.1 hxr.2,bnS,az,e]
    have hkl:(kys m).length≤100:=by simp[kys];omega
    obtain⟨inn',h1,h2⟩:=f10_l2_eq m x (nx t x) (λm156=>aO (bw 8 lo (nx t x)) (f10_l1 t K n (aS m x (nx t x)) m156 (lo++nx t x))) (ff (qR t x)) oM (Int.toNat (((nx t x).length:Int) - 0)+1) 0 inn (λz=>by
     rw[hd.cnt]
     have:=List.length_filter_le (λk=>decide (z∈nx t k)) (kys m)
     omega) (Nat.zero_le _) oM
    rw[show((0:Nat):Int)=0 from rfl] at h1
    rw[h1,aX _ (fU oM),uF hk]
    refine f10_l1_eq g hf K n _ inn' (lo++nx t x) ⟨?_,?_,?_,?_,?_,?_,?_⟩ ?_ ?_
    ·rw[jL,List.nodup_append]
     exact⟨hd.nd,sM,λa ha b hb=>by rw[List.mem_singleton.1 hb];exact λe=>hk (e▸ha)⟩
    ·intro p hp
     rcases List.mem_append.1 hp with hp|hp
     ·exact hd.val p hp
     ·rw[List.mem_singleton.1 hp]
    ·intro k hk'
     rw[jL] at hk'
     rcases List.mem_append.1 hk' with hk'|hk'
     ·exact hd.rc k hk'
     ·rw[List.mem_singleton.1 hk'];exact hx
    ·intro z hz
     rcases List.mem_append.1 hz with hz|hz
     ·exact hd.tr z (by simp[hz])
     ·exact .step hx hz
    ·rw[jL]
     rcases hd.st with h|h
     ·exact .inl (List.mem_append_left _ h)
     ·rcases List.mem_append.1 h with h|h
      ·exact .inr (List.mem_append_left _ h)
      ·exact .inl (List.mem_append_right _ h)
    ·intro k hk' b hb
     rw[jL] at hk'⊢
     rcases List.mem_append.1 hk' with hk'|hk'
     ·rcases hd.cl k hk' b hb with h|h
      ·exact .inl (List.mem_append_left _ h)
      ·rcases List.mem_append.1 h with h|h
       ·exact .inr (List.mem_append_left _ h)
       ·exact .inl (List.mem_append_right _ h)
     ·rw[List.mem_singleton.1 hk'] at hb
      exact .inr (List.mem_append_right _ hb)
    ·intro z
     rw[h2,hd.cnt,jL,List.filter_append,List.length_append,List.drop_zero]
     by_cases hz:z∈nx t x
     ·simp[hz]
     ·simp[hz]
    ·have hml':m.length<t.insns.length:=by
      have:=eL (l:=x::kys m) (N:=t.insns.length) (List.nodup_cons.2 ⟨hk,hd.nd⟩) λz hz=>by
       rcases List.mem_cons.1 hz with rfl|hz
       ·exact hxr
       ·exact(hd.rc z hz).rng g hf
      simp[kys] at this
      omega
     simp only[List.length_append,List.length_singleton]
     omega
    ·simp only[List.length_append,List.length_singleton]
     omega
structure WkN(t:ah)(f:Int)(m:List (Int×List Int))(inn:List (Int×Int)):Prop where
 nd:(kys m).Nodup
 mem:∀z,z∈kys m↔Rc t f z
 val:∀p∈m,p.2=nx t p.1
 cnt:∀x,ct inn x=(((kys m).filter λk=>decide (x∈nx t k)).length:Int)
theorem DI.wkN{t:ah}{f:Int}{m:List (Int×List Int)}{inn:List (Int×Int)}(h:DI t f m inn []):WkN t f m inn:=by
 refine⟨h.nd,λz=>⟨h.rc z,λhz=>?_⟩,h.val,h.cnt⟩
 induction hz with
 |base=>
   rcases h.st with h|h
   ·exact h
   ·simp at h
 |step _ h2 ih=>
   rcases h.cl _ ih _ h2 with h|h
   ·exact h
   ·simp at h
theorem f10_walk{t:ah}(g:GT t){f:Int}(hf:0≤f∧f<t.insns.length)(K:List (Int×List Int)→List (Int×Int)→List Int→Option (List al×Int))(B:Nat)(hB:B=9223372036854775808):∃m inn,WkN t f m inn∧f10_l1 t K B [] [] [f]=K m inn []:=by
 have hg:=g.le
 obtain⟨m,inn,h1,h2⟩:=f10_l1_eq g hf K B [] [] [f] ⟨by simp[kys],sM,by simp[kys],λz hz=>by rw[List.mem_singleton.1 hz];exact .base, .inr sM,by simp[kys],λx=>by simp[kys,ct,aA]⟩ (by simp;omega) sM
 exact⟨m,inn,h1.wkN,h2⟩
theorem WkN.get{t:ah}{f:Int}{m:List (Int×List Int)}{inn:List (Int×Int)}(h:WkN t f m inn)(z:Int)(hz:Rc t f z):aA m z=some (nx t z):=by
 cases hm:aA m z with
 |none=>exact absurd ((h.mem z).2 hz) (jH.1 hm)
 |some v=>rw[show v=nx t z from h.val _ (tw hm)]
theorem WkN.no{t:ah}{f:Int}{m:List (Int×List Int)}{inn:List (Int×Int)}(h:WkN t f m inn)(z:Int)(hz:¬Rc t f z):aA m z=none:=jH.2 λh'=>hz ((h.mem z).1 h')
theorem WkN.ct{t:ah}{f:Int}{m:List (Int×List Int)}{inn:List (Int×Int)}(h:WkN t f m inn){R:List Int}(hR:RL t f R)(x:Int):ct inn x=((R.filter λk=>decide (x∈nx t k)).length:Int):=by
 rw[h.cnt]
 have hp:(kys m).Perm R:=(List.perm_ext_iff_of_nodup h.nd (ff hR.asc)).2 λz=>by rw[h.mem,hR.mem]
 rw[(hp.filter _).length_eq]
def cnR(t:ah)(R:List Int)(x:Int):Nat:=(R.filter λk=>decide (x∈nx t k)).length
def jn(t:ah)(R:List Int)(f a:Int):Bool:=(decide (a∈R)&&decide (nx t a=[a+1]))&& !decide (a+1=f)&&decide (cnR t R (a+1)=1)
def hp(t:ah)(R:List Int)(f x:Int):Bool:= !decide (x=f)&& !jn t R f (x - 1)
theorem jj{t:ah}{R:List Int}{f a:Int}:jn t R f a=true↔a∈R∧nx t a=[a+1]∧a+1≠f∧cnR t R (a+1)=1:=by
 unfold jn
 simp only[Bool.and_eq_true,decide_eq_true_eq,Bool.not_eq_true',decide_eq_false_iff_not]
 constructor
 ·rintro⟨⟨⟨h1,h2⟩,h3⟩,h4⟩;exact⟨h1,h2,h3,h4⟩
 ·rintro⟨h1,h2,h3,h4⟩;exact⟨⟨⟨h1,h2⟩,h3⟩,h4⟩
theorem uy(l:List Int)(a:Int):(bif decide ((l.length:Int)=1) then(Option.bind (idx l 0) λx=>some (decide (x=a))) else some false)=some (decide (l=[a])):=by
 match l with
 |[]=>rfl
 |[x]=>
  rw[dcT sM,cdT]
  show some (decide (x=a))=_
  simp
 |x::y::r=>
  rw[dcF (by simp;omega),cdF]
  simp
theorem yn{t:ah}(g:GT t){f:Int}(hf:0≤f∧f<t.insns.length){m:List (Int×List Int)}{inn:List (Int×Int)}(w:WkN t f m inn){R:List Int}(hR:RL t f R){β:Type}(a:Int)(ha: -10≤a∧a≤1000)(K:Bool→Option β):(Option.bind (bif ((Option.isSome (aA m a))&&(decide ((List.length (Option.getD (aA m a) []):Int)=1))) then(Option.bind (idx (Option.getD (aA m a) []) 0) λx232=>some (decide (x232=(IntKind.i64.wrap (a+1))))) else some false) λb231=>K ((b231&&(!decide ((IntKind.i64.wrap (a+1))=f)))&&(decide ((Option.getD (aA inn (IntKind.i64.wrap (a+1))) 0)=1))))=K (jn t R f a):=by
 rw[w64 (x:=a+1) oM oM]
 have hc:decide (Option.getD (aA inn (a+1)) 0=1)=decide (cnR t R (a+1)=1):=by
  have:=w.ct hR (a+1)
  unfold ct at this
  rw[this]
  unfold cnR
  exact decide_eq_decide.2 oM
 rw[hc]
 by_cases hr:Rc t f a
 ·have ha':decide (a∈R)=true:=dcT ((hR.mem a).2 hr)
  rw[w.get a hr]
  have h1:=uy (nx t a) (a+1)
  simp only[Option.isSome_some,Bool.true_and,Option.getD_some]
  rw[h1,bnS]
  unfold jn
  rw[ha',Bool.true_and]
 ·have ha':decide (a∈R)=false:=dcF λh=>hr ((hR.mem a).1 h)
  rw[w.no a hr]
  simp only[Option.isSome_none,Bool.false_and,cdF,bnS]
  unfold jn
  rw[ha',Bool.false_and,Bool.false_and,Bool.false_and]
theorem RL.rng{t:ah}(g:GT t){f:Int}(hf:0≤f∧f<t.insns.length){R:List Int}(hR:RL t f R){z:Int}(hz:z∈R):0≤z∧z<t.insns.length:=((hR.mem z).1 hz).rng g hf
theorem RL.len{t:ah}(g:GT t){f:Int}(hf:0≤f∧f<t.insns.length){R:List Int}(hR:RL t f R):R.length≤100:=Nat.le_trans (eL (ff hR.asc) λz hz=>hR.rng g hf hz) g.le
theorem f71_l1_eq{t:ah}(g:GT t)(R:List Int)(hl:R.length≤100)(hr:∀z∈R,0≤z∧z<(t.insns.length:Int))(x:Int)(K:List Int→Option (List Int)):∀(n i:Nat)(acc:List Int),i≤R.length→R.length<n+i→acc.length≤i→f71_l1 t R x K n (i:Int) acc=K (acc++(R.drop i).filter λk=>decide (x∈nx t k))
 |0,i,_,_,h,_=>oM
 |n+1,i,acc,hi,hn,ha=>by
  rw[f71_l1]
  by_cases hlt:i<R.length
  ·have h0:=hr _ (List.getElem_mem hlt)
   rw[ltb hlt,cdT,az,br hlt,bnS,g.n38 _ h0.1 h0.2,bnS,f36_eq _ _ (by have:=ge g R[i];omega),bnS,List.drop_eq_getElem_cons hlt,List.filter_cons,w1n oM,bnS]
   cases hd:decide (x∈nx t R[i]) with
   |true=>rw[cdT,if_pos rfl,aX _ (fU (by simp;omega))];dsimp only;rw[f71_l1_eq g R hl hr x K n (i+1) _ oM oM (by simp;omega)];simp only[List.append_assoc,List.singleton_append]
   |false=>rw[cdF,if_neg sM];dsimp only;rw[f71_l1_eq g R hl hr x K n (i+1) _ oM oM oM]
  ·rw[ltf hlt,cdF,List.drop_eq_nil_of_le oM]
   simp
theorem f37_eq{t:ah}(g:GT t){f:Int}(hf:0≤f∧f<t.insns.length){R:List Int}(hR:RL t f R){a:Int}(ha:a∈R):f37 t R f a=some (jn t R f a):=by
 have h0:=hR.rng g hf ha
 have hg:=g.le
 obtain⟨B,hB⟩:∃F:Nat,F=9223372036854775808:=⟨_,rfl⟩
 have h71:f71 t R (a+1)=some (R.filter λk=>decide (a+1∈nx t k)):=by
  have hl:=hR.len g hf
  have:=f71_l1_eq g R hl (λz hz=>hR.rng g hf hz) (a+1) (λlw=>some lw) B 0 [] (Nat.zero_le _) oM sM
  unfold f71
  rw[az,←hB]
  simpa using this
 unfold f37
 rw[g.n38 a h0.1 h0.2,bnS,w64 (x:=a+1) oM oM]
 have h1:=uy (nx t a) (a+1)
 rw[h1,bnS,h71,bnS]
 unfold jn
 rw[dcT ha,Bool.true_and]
 have hc:decide (((R.filter λk=>decide (a+1∈nx t k)).length:Int)=1)=decide (cnR t R (a+1)=1):=by
  unfold cnR
  exact decide_eq_decide.2 oM
 rw[hc]
 cases (decide (nx t a=[a+1])&& !decide (a+1=f))<;>rfl
theorem f11_l1_eq{t:ah}(g:GT t){f:Int}(hf:0≤f∧f<t.insns.length){R:List Int}(hR:RL t f R)(K:List Int→Option (List al×Int)):∀(n i:Nat)(acc:List Int),i≤R.length→R.length<n+i→acc.length≤i+1→f11_l1 t f R K n (i:Int) acc=K (acc++(R.drop i).filter (hp t R f))
 |0,i,_,_,h,_=>oM
 |n+1,i,acc,hi,hn,ha=>by
  have hl:=hR.len g hf
  rw[f11_l1]
  by_cases hlt:i<R.length
  ·have h0:=hR.rng g hf (List.getElem_mem hlt)
   have hg:=g.le
   rw[ltb hlt,cdT,az,br hlt,bnS,List.drop_eq_getElem_cons hlt,List.filter_cons,w1n oM,w64 (x:=R[i] - 1) oM oM]
   have hb:(bif (!decide (R[i]=f)) then(Option.bind (f36 R (R[i] - 1)) λr138=>Option.bind (bif r138 then(Option.bind (f37 t R f (R[i] - 1)) λr140=>some r140) else some false) λb139=>some (!b139)) else some false)=some (hp t R f R[i]):=by
    unfold hp
    cases decide (R[i]=f) with
    |true=>rfl
    |false=>
     rw[Bool.not_false,cdT,f36_eq _ _ oM,bnS,Bool.true_and]
     by_cases hm:R[i] - 1∈R
     ·rw[dcT hm,cdT,f37_eq g hf hR hm];rfl
     ·rw[dcF hm,cdF]
      have:jn t R f (R[i] - 1)=false:=by unfold jn;rw[dcF hm];rfl
      rw[this];rfl
   rw[hb,bnS]
   cases hd:hp t R f R[i] with
   |true=>rw[cdT,if_pos rfl,aX _ (fU (by simp;omega))];dsimp only;rw[f11_l1_eq g hf hR K n (i+1) _ oM oM (by simp;omega)];simp only[List.append_assoc,List.singleton_append]
   |false=>rw[cdF,if_neg sM];dsimp only;rw[f11_l1_eq g hf hR K n (i+1) _ oM oM oM]
  ·rw[ltf hlt,cdF,List.drop_eq_nil_of_le oM]
   simp
theorem rR{t:ah}(g:GT t){f:Int}(hf:0≤f∧f<t.insns.length){m:List (Int×List Int)}{inn:List (Int×Int)}(w:WkN t f m inn){R:List Int}(hR:RL t f R):∀(l:List (Int×List Int))(acc:List Int),(∀p∈l,p∈m)→acc.length+l.length≤1000→my (f10_m3 f m inn) l acc=some (acc++(kys l).filter (hp t R f))
 |[],acc,_,_=>by simp[my,kys]
 |p::l,acc,hm,hl=>by
  have hpm:=hm p sM
  have hpr:Rc t f p.1:=(w.mem p.1).1 (List.mem_map.2 ⟨p,hpm,rfl⟩)
  have h0:=hpr.rng g hf
  have hg:=g.le
  simp only[List.length_cons] at hl
  rw[my]
  have hstep:f10_m3 f m inn p acc=some (acc++if hp t R f p.1=true then[p.1] else[]):=by
   rw[f10_m3]
   unfold hp
   cases decide (p.1=f) with
   |true=>simp
   |false=>
    rw[Bool.not_false,cdT,az,w64 (x:=p.1 - 1) oM oM]
    have:=yn g hf w hR (p.1 - 1) oM (λb=>(bif !b then aO (bw 8 acc [p.1]) (some (acc++ [p.1])) else some acc))
    refine Eq.trans this ?_
    cases jn t R f (p.1 - 1) with
    |true=>simp
    |false=>rw[Bool.not_false,cdT,aX _ (fU (by simp;omega))];rfl
  rw[hstep,bnS,rR g hf w hR l _ (λq hq=>hm q (by simp[hq])) (by cases hp t R f p.1<;>simp<;>omega)]
  show _=some (acc++(p.1::kys l).filter (hp t R f))
  rw[List.filter_cons]
  cases hp t R f p.1<;>simp
theorem pj{M:List Int}(h:M.Nodup):Asc (M.mergeSort λx y=>decide (x≤y)):=by
 have h1:(M.mergeSort λx y=>decide (x≤y)).Pairwise (·≤·):=by
  have:=List.pairwise_mergeSort (le:=λx y:Int=>decide (x≤y)) (λa b c h1 h2=>by simp at*;omega) (λa b=>by simp;omega) M
  exact List.Pairwise.imp (λh=>by simpa using h) this
 have h2:(M.mergeSort λx y=>decide (x≤y)).Nodup:=(List.mergeSort_perm M _).nodup_iff.2 h
 exact List.Pairwise.imp (λh=>by have:=h.1;have:=h.2;omega) (h1.and h2)
def HL(t:ah)(R:List Int)(f:Int):List Int:=[f]++R.filter (hp t R f)
theorem u0{t:ah}(g:GT t){f:Int}(hf:0≤f∧f<t.insns.length){m:List (Int×List Int)}{inn:List (Int×Int)}(w:WkN t f m inn){R:List Int}(hR:RL t f R)(K:List Int→Option (List al×Int))(r:List al×Int)(hK:K (HL t R f)=some r):gK m (f10_m3 f m inn) (λlw166=>aO (bT lw166 1 (List.length lw166:Int)) (Option.bind (f34t lw166) K)) [f]=some r:=by
 refine tp λl hl=>?_
 have hg:=g.le
 have hml:m.length≤100:=by
  have:=eL w.nd λz hz=>((w.mem z).1 hz).rng g hf
  simp[kys] at this
  omega
 have hll:=hl.length_eq
 rw[rR g hf w hR l [f] (λp hp=>hl.mem_iff.1 hp) (by simp;omega),bnS]
 have hfl:((kys l).filter (hp t R f)).length≤100:=Nat.le_trans (List.length_filter_le _ _) (by simp[kys];omega)
 rw[aX _ (by simp[bT];omega)]
 unfold f34t
 rw[aX _ (dcT sM),aX _ (dcT (by simp;omega)),bnS,←hK]
 congr 1
 unfold HL
 rw[show List.take 1 ([f]++(kys l).filter (hp t R f))=[f] from rfl,show List.drop 1 ([f]++(kys l).filter (hp t R f))=(kys l).filter (hp t R f) from rfl]
 congr 1
 have hpl:(kys l).Perm (kys m):=hl.map _
 refine jS (pj ((hpl.nodup_iff.2 w.nd).filter _)) (hR.asc.filter _) λz=>?_
 rw[List.mem_mergeSort,List.mem_filter,List.mem_filter,hpl.mem_iff,w.mem,hR.mem]
structure En(t:ah)(R:List Int)(f a e:Int):Prop where
 mem:e∈R
 le:a≤e
 no:jn t R f e=false
 yes:∀z,a≤z→z<e→jn t R f z=true
theorem Am{t:ah}(g:GT t){f:Int}(hf:0≤f∧f<t.insns.length){m:List (Int×List Int)}{inn:List (Int×Int)}(w:WkN t f m inn){R:List Int}(hR:RL t f R):∀(d:Nat)(a:Int),a∈R→t.insns.length - a≤d→∃e,En t R f a e∧(∀n K,d<n→f10_l6 f m inn K n (a+1)=K (e+1))∧(∀n K,d<n→f11_l3 t f R K n (a+1)=K (e+1))
 |0,a,ha,hd=>by have:=hR.rng g hf ha;omega
 |d+1,a,ha,hd=>by
  have h0:=hR.rng g hf ha
  have hg:=g.le
  have s6:∀n K,f10_l6 f m inn K (n+1) (a+1)=bif jn t R f a then f10_l6 f m inn K n (a+1+1) else K (a+1):=λn K=>by
   rw[f10_l6,az,show IntKind.i64.wrap (a+1 - 1)=a by rw[w64 oM oM];omega]
   have:=yn g hf w hR a oM (λb=>(bif b then f10_l6 f m inn K n (IntKind.i64.wrap (a+1+1)) else K (a+1)))
   refine Eq.trans this ?_
   rw[w64 (x:=a+1+1) oM oM]
  have s3:∀n K,f11_l3 t f R K (n+1) (a+1)=bif jn t R f a then f11_l3 t f R K n (a+1+1) else K (a+1):=λn K=>by
   rw[f11_l3,show IntKind.i64.wrap (a+1 - 1)=a by rw[w64 oM oM];omega,f37_eq g hf hR ha,bnS,w64 (x:=a+1+1) oM oM]
  cases hj:jn t R f a with
  |false=>
   refine⟨a,⟨ha,Int.le_refl _,hj,λz h1 h2=>oM⟩,λn K hn=>?_,λn K hn=>?_⟩
   ·obtain⟨n',rfl⟩:∃k,n=k+1:=⟨n - 1,oM⟩
    rw[s6,hj,cdF]
   ·obtain⟨n',rfl⟩:∃k,n=k+1:=⟨n - 1,oM⟩
    rw[s3,hj,cdF]
  |true=>
   have h1:=jj.1 hj
   have ha1:a+1∈R:=(hR.mem _).2 (.step ((hR.mem a).1 ha) (by rw[h1.2.1];simp))
   obtain⟨e,he,e6,e3⟩:=Am g hf w hR d (a+1) ha1 oM
   refine⟨e,⟨he.mem,by have:=he.le;omega,he.no,λz h2 h3=>?_⟩,λn K hn=>?_,λn K hn=>?_⟩
   ·by_cases hz:z=a
    ·rw[hz];exact hj
    ·exact he.yes z oM h3
   ·obtain⟨n',rfl⟩:∃k,n=k+1:=⟨n - 1,oM⟩
    rw[s6,hj,cdT,e6 n' K oM]
   ·obtain⟨n',rfl⟩:∃k,n=k+1:=⟨n - 1,oM⟩
    rw[s3,hj,cdT,e3 n' K oM]
def hB(t:ah)(H:List Int)(e:Int)(j:Nat):Bool:=match H[j]? with
 |some h=>decide (h∈nx t e)
 |none=>false
def tg(t:ah)(H:List Int)(e:Int):List Int:=((List.range H.length).filter (hB t H e)).map λn:Nat=>(n:Int)
theorem f11_l4_eq(t:ah)(H:List Int)(e:Int)(K:List Int→Option (List al×Int))(hH:H.length≤1000)(hx:(nx t e).length≤1000):∀(n i:Nat),i≤H.length→H.length<n+i→f11_l4 H (nx t e) K n (i:Int) (((List.range i).filter (hB t H e)).map λn:Nat=>(n:Int))=K (tg t H e)
 |0,i,_,h=>oM
 |n+1,i,hi,hn=>by
  rw[f11_l4]
  by_cases hlt:i<H.length
  ·have ih:=f11_l4_eq t H e K hH hx n (i+1) oM oM
   have hb:hB t H e i=decide (H[i]∈nx t e):=by unfold hB;rw[geG hlt]
   have hlen:((List.range i).filter (hB t H e)).length≤i:=Nat.le_trans (List.length_filter_le _ _) sM
   rw[List.range_succ,List.filter_append,List.map_append] at ih
   rw[ltb hlt,cdT,az,br hlt,bnS,f36_eq _ _ oM,bnS,w1n oM,←ih]
   cases hd:decide (H[i]∈nx t e) with
   |true=>
    rw[hd] at hb
    rw[cdT,aX _ (fU (by simp;omega))]
    simp[hb]
   |false=>
    rw[hd] at hb
    rw[cdF]
    simp[hb]
  ·rw[ltf hlt,cdF,show i=H.length by omega];rfl
theorem f10_l4_eq(H:List Int)(K:List (Int×Int)→Option (List al×Int))(hH:H.length≤1000)(hn:H.Nodup):∀(n i:Nat)(m:List (Int×Int)),(∀j,j<i→∀h:j<H.length,aA m H[j]=some (j:Int))→i≤H.length→H.length<n+i→∃m',f10_l4 H K n (i:Int) m=K m'∧∀j,∀h:j<H.length,aA m' H[j]=some (j:Int)
 |0,i,_,_,_,h=>oM
 |n+1,i,m,hm,hi,hnn=>by
  rw[f10_l4]
  by_cases hlt:i<H.length
  ·rw[ltb hlt,cdT,br hlt,bnS,w1n oM]
   refine f10_l4_eq H K hH hn n (i+1) _ (λj hj h=>?_) oM oM
   rw[eE]
   by_cases hji:j=i
   ·subst hji;rw[if_pos rfl]
   ·rw[if_neg λe=>List.pairwise_iff_getElem.1 hn j i h hlt oM e.symm]
    exact hm j oM h
  ·rw[ltf hlt,cdF]
   exact⟨m,rfl,λj h=>hm j oM h⟩
theorem f10_l7_eq(m:List (Int×List Int))(num:List (Int×Int))(c:Int)(L:List Int)(hL:Option.getD (aA m (IntKind.i64.wrap (c - 1))) []=L)(hl:L.length≤1000)(K:List Int→Option (List al×Int)):∀(n i:Nat)(acc:List Int),i≤L.length→L.length<n+i→acc.length≤i→f10_l7 m num c K n (i:Int) acc=K (acc++(L.drop i).map λz=>Option.getD (aA num z) 0)
 |0,i,_,_,h,_=>oM
 |n+1,i,acc,hi,hn,ha=>by
  rw[f10_l7,hL]
  by_cases hlt:i<L.length
  ·rw[ltb hlt,cdT,br hlt,bnS,aX _ (fU (by simp;omega)),w1n oM,f10_l7_eq m num c L hL hl K n (i+1) _ oM oM (by simp;omega),List.drop_eq_getElem_cons hlt,List.map_cons,List.append_assoc]
   rfl
  ·rw[ltf hlt,cdF,List.drop_eq_nil_of_le oM];simp
theorem yK{t:ah}{R:List Int}{f:Int}(hR:RL t f R):(HL t R f).Nodup:=by
 unfold HL
 rw[List.nodup_append]
 refine⟨sM,(ff hR.asc).filter _,λa ha b hb=>?_⟩
 rw[List.mem_singleton.1 ha]
 have:=(List.mem_filter.1 hb).2
 unfold hp at this
 simp only[Bool.and_eq_true,Bool.not_eq_true',decide_eq_false_iff_not] at this
 exact λe=>this.1 e.symm
theorem mL{t:ah}(g:GT t){f:Int}(hf:0≤f∧f<t.insns.length){R:List Int}(hR:RL t f R):(HL t R f).length≤101:=by
 have:=hR.len g hf
 have:=List.length_filter_le (hp t R f) R
 unfold HL
 simp;omega
theorem jr{t:ah}{f:Int}{R:List Int}(hR:RL t f R){z:Int}(hz:z∈HL t R f):z∈R:=by
 unfold HL at hz
 rcases List.mem_append.1 hz with h|h
 ·rw[List.mem_singleton.1 h];exact(hR.mem f).2 .base
 ·exact(List.mem_filter.1 h).1
theorem oL{t:ah}{f:Int}{R:List Int}(hR:RL t f R){z:Int}:z∈HL t R f↔z∈R∧(z=f∨jn t R f (z - 1)=false):=by
 unfold HL
 rw[List.mem_append,List.mem_singleton,List.mem_filter]
 unfold hp
 simp only[Bool.and_eq_true,Bool.not_eq_true',decide_eq_false_iff_not]
 constructor
 ·rintro(h|⟨h1,h2,h3⟩)
  ·rw[h];exact⟨(hR.mem f).2 .base, .inl rfl⟩
  ·exact⟨h1, .inr h3⟩
 ·rintro⟨h1,h2⟩
  by_cases h:z=f
  ·exact .inl h
  ·rcases h2 with h2|h2
   ·exact absurd h2 h
   ·exact .inr ⟨h1,h,h2⟩
theorem uk{t:ah}{f:Int}{R:List Int}(hR:RL t f R){e z:Int}(he:e∈R)(hn:jn t R f e=false)(hz:z∈nx t e):z∈HL t R f:=by
 rw[oL hR]
 refine⟨(hR.mem z).2 (.step ((hR.mem e).1 he) hz),?_⟩
 cases hj:jn t R f (z - 1) with
 |false=>exact .inr rfl
 |true=>
  obtain⟨h1,h2,h3,h4⟩:=jj.1 hj
  rw[show z - 1+1=z by omega] at h2 h4
  unfold cnR at h4
  have m1:e∈R.filter λk=>decide (z∈nx t k):=List.mem_filter.2 ⟨he,dcT hz⟩
  have m2:z - 1∈R.filter λk=>decide (z∈nx t k):=List.mem_filter.2 ⟨h1,dcT (by rw[h2];simp)⟩
  obtain⟨y,hy⟩:=List.length_eq_one_iff.1 h4
  rw[hy] at m1 m2
  have:e=z - 1:=(List.mem_singleton.1 m1).trans (List.mem_singleton.1 m2).symm
  rw[this] at hn
  rw[hn] at hj
  cases hj
theorem yY(t:ah)(H:List Int)(e:Int):Asc (tg t H e):=tn _ _
theorem wu{t:ah}{f:Int}{R:List Int}(hR:RL t f R){num:List (Int×Int)}(hnum:∀j,∀h:j<(HL t R f).length,aA num (HL t R f)[j]=some (j:Int)){e:Int}(he:e∈R)(hn:jn t R f e=false):(((nx t e).map λz=>Option.getD (aA num z) 0).mergeSort λx y=>decide (x≤y))=tg t (HL t R f) e:=by
 have hj:∀z∈nx t e,∃j,∃h:j<(HL t R f).length,(HL t R f)[j]=z∧Option.getD (aA num z) 0=(j:Int):=λz hz=>by
  obtain⟨j,h,rfl⟩:=List.getElem_of_mem (uk hR he hn hz)
  exact⟨j,h,rfl,by rw[hnum j h];rfl⟩
 have hnd:((nx t e).map λz=>Option.getD (aA num z) 0).Nodup:=by
  unfold List.Nodup
  rw[List.pairwise_map]
  refine List.Pairwise.imp_of_mem (λ{a b} ha hb hab=>?_) (ff (qR t e))
  obtain⟨j,h1,h2,h3⟩:=hj a ha
  obtain⟨k,k1,k2,k3⟩:=hj b hb
  rw[h3,k3]
  intro e
  have:j=k:=oM
  subst this
  exact hab (h2.symm.trans k2)
 refine jS (pj hnd) (yY _ _ _) λz=>?_
 rw[List.mem_mergeSort]
 unfold tg
 constructor
 ·intro hz
  obtain⟨y,hy,rfl⟩:=List.mem_map.1 hz
  obtain⟨j,h1,h2,h3⟩:=hj y hy
  refine List.mem_map.2 ⟨j,List.mem_filter.2 ⟨List.mem_range.2 h1,?_⟩,h3.symm⟩
  unfold hB
  rw[geG h1,h2]
  exact dcT hy
 ·intro hz
  obtain⟨j,hjm,rfl⟩:=List.mem_map.1 hz
  have h1:=List.mem_filter.1 hjm
  have hl:=List.mem_range.1 h1.1
  have h2:=h1.2
  unfold hB at h2
  rw[geG hl] at h2
  have h2:=of_decide_eq_true h2
  refine List.mem_map.2 ⟨_,h2,?_⟩
  rw[hnum j hl];rfl
def bk1(t:ah)(H:List Int)(E:Int→Int)(h:Int):al:=⟨h,E h+1,tg t H (E h)⟩
theorem yH{L M:List al}(h:L.length+M.length≤1000000):bw 40 L M=true:=sK dC oM
structure BkS(t:ah)(f:Int)(R:List Int)(E:Int→Int):Prop where
 rl:RL t f R
 en:∀a∈R,En t R f a (E a)
theorem nE{t:ah}(g:GT t){f:Int}(hf:0≤f∧f<t.insns.length)(hv:f31 t=some true)(hv':f25 t=some true):∃R E,BkS t f R E∧f10 t f=some ((HL t R f).map (bk1 t (HL t R f) E),0)∧f11 t f=some ((HL t R f).map (bk1 t (HL t R f) E),0):=by
 obtain⟨R,hRe,hR⟩:=f35_eq g hf
 have hg:=g.le
 obtain⟨B,hB⟩:∃F:Nat,F=9223372036854775808:=⟨_,rfl⟩
 obtain⟨m,inn,w,_⟩:=f10_walk g hf (λ_ _ _=>none) B hB
 have hE:∀a:Int,∃e:Int,a∈R→En t R f a e∧(∀n K,100<n→f11_l3 t f R K n (a+1)=K (e+1)):=by
  intro a
  by_cases ha:a∈R
  ·have h0:=hR.rng g hf ha
   obtain⟨e,h1,h2,h3⟩:=Am g hf w hR 100 a ha oM
   exact⟨e,λ_=>⟨h1,h3⟩⟩
  ·exact⟨0,λh=>absurd h ha⟩
 obtain⟨E,hE⟩:=Classical.skolem.1 hE
 have hHl:=mL g hf hR
 refine⟨R,E,⟨hR,λa ha=>(hE a ha).1⟩,?_,?_⟩
 ·unfold f10
  rw[←hB,hv,bnS,dcF oM,dcF oM]
  simp only[Bool.not_true,Bool.or_self,cdF,az]
  obtain⟨m,inn,w,e1⟩:=f10_walk g hf (λm126 m127 lw128=>gK m126 (f10_m3 f m126 m127) (λzw192=>aO (bT zw192 1 (List.length zw192:Int)) (Option.bind (f34t zw192) λr194=>f10_l4 r194 (λm195=>f10_l5 f m126 m127 r194 m195 (λlw204=>some (lw204,0)) (Int.toNat ((List.length r194:Int) - 0)+1) 0 []) (Int.toNat ((List.length r194:Int) - 0)+1) 0 ([]:List (Int×Int)))) [f]) B hB
  rw[e1]
  refine u0 g hf w hR _ _ ?_
  obtain⟨num,n1,n2⟩:=f10_l4_eq (HL t R f) (λm195=>f10_l5 f m inn (HL t R f) m195 (λlw204=>some (lw204,0)) (Int.toNat ((List.length (HL t R f):Int) - 0)+1) 0 []) oM (yK hR) (Int.toNat ((List.length (HL t R f):Int) - 0)+1) 0 [] (λj hj=>oM) (Nat.zero_le _) oM
  rw[show((0:Nat):Int)=0 from rfl] at n1
  rw[n1]
  have hE6:∀a∈R,∀n K,100<n→f10_l6 f m inn K n (a+1)=K (E a+1):=λa ha n K hn=>by
   have h0:=hR.rng g hf ha
   obtain⟨e,h1,h2,h3⟩:=Am g hf w hR 100 a ha oM
   have h4:=(hE a ha).1
   have:e=E a:=by
    rcases Int.lt_trichotomy e (E a) with h|h|h
    ·have:=h4.yes e h1.le h
     rw[h1.no] at this;cases this
    ·exact h
    ·have:=h1.yes (E a) h4.le h
     rw[h4.no] at this;cases this
   rw[←this]
   exact h2 n K hn
  have l5:∀(n i:Nat)(acc:List al),i≤(HL t R f).length→(HL t R f).length<n+i→acc.length≤i→f10_l5 f m inn (HL t R f) num (λlw204=>some (lw204,(0:Int))) n (i:Int) acc=some (acc++((HL t R f).drop i).map (bk1 t (HL t R f) E),0):=by
   intro n
   induction n with
   |zero=>intro i acc h1 h2;omega
   |succ n ih=>
    intro i acc hi hn ha
    rw[f10_l5,←hB]
    by_cases hlt:i<(HL t R f).length
    ·have hh:=jr hR (List.getElem_mem hlt)
     have h0:=hR.rng g hf hh
     have hen:=(hE _ hh).1
     have he0:=hR.rng g hf hen.mem
     have hlx:=ge g (E (HL t R f)[i])
     rw[ltb hlt,cdT,az,br hlt,bnS,az,w64 (x:=(HL t R f)[i]+1) oM oM,hE6 _ hh B _ oM,az]
     have hL:Option.getD (aA m (IntKind.i64.wrap (E (HL t R f)[i]+1 - 1))) []=nx t (E (HL t R f)[i]):=by
      rw[w64 oM oM,show E (HL t R f)[i]+1 - 1=E (HL t R f)[i] by omega,w.get _ ((hR.mem _).1 hen.mem)];rfl
     have h7:=λK=>f10_l7_eq m num (E (HL t R f)[i]+1) _ hL oM K (Int.toNat (((nx t (E (HL t R f)[i])).length:Int) - 0)+1) 0 [] (Nat.zero_le _) oM sM
     simp only[show((0:Nat):Int)=0 from rfl,List.drop_zero,List.nil_append] at h7
     rw[hL,h7]
     unfold f34
     rw[aX _ (dcT (by simp;omega)),bnS,wu hR n2 hen.mem hen.no,aX _ (yH (by simp;omega)),w1n oM]
     have:=ih (i+1) (acc++ [bk1 t (HL t R f) E (HL t R f)[i]]) oM oM (by simp;omega)
     rw[List.drop_eq_getElem_cons hlt,List.map_cons]
     refine Eq.trans this ?_
     rw[List.append_assoc];rfl
    ·rw[ltf hlt,cdF,List.drop_eq_nil_of_le oM];simp
  have:=l5 (Int.toNat ((List.length (HL t R f):Int) - 0)+1) 0 [] (Nat.zero_le _) oM sM
  simpa using this
 ·unfold f11
  rw[←hB]
  have h26:f26 t f=true:=by unfold f26;rw[dcT oM,dcT oM];rfl
  rw[hv',bnS,h26,hRe]
  simp only[Bool.not_true,Bool.or_self,cdF,az,bnS]
  have hRl:=hR.len g hf
  have h1:=f11_l1_eq g hf hR (λlw121=>f11_l2 t f R lw121 (λlw142=>some (lw142,(0:Int))) B 0 []) B 0 [f] (Nat.zero_le _) oM sM
  rw[show((0:Nat):Int)=0 from rfl,List.drop_zero] at h1
  refine Eq.trans h1 ?_
  show f11_l2 t f R (HL t R f) _ B 0 []=_
  have l2:∀(n i:Nat)(acc:List al),i≤(HL t R f).length→(HL t R f).length<n+i→acc.length≤i→f11_l2 t f R (HL t R f) (λlw204=>some (lw204,(0:Int))) n (i:Int) acc=some (acc++((HL t R f).drop i).map (bk1 t (HL t R f) E),0):=by
   intro n
   induction n with
   |zero=>intro i acc h1 h2;omega
   |succ n ih=>
    intro i acc hi hn ha
    rw[f11_l2,←hB]
    by_cases hlt:i<(HL t R f).length
    ·have hh:=jr hR (List.getElem_mem hlt)
     have h0:=hR.rng g hf hh
     have hen:=(hE _ hh).1
     have he0:=hR.rng g hf hen.mem
     have hlx:=ge g (E (HL t R f)[i])
     rw[ltb hlt,cdT,az,br hlt,bnS,bnS,az,w64 (x:=(HL t R f)[i]+1) oM oM,(hE _ hh).2 B _ oM,show IntKind.i64.wrap (E (HL t R f)[i]+1 - 1)=E (HL t R f)[i] by rw[w64 oM oM];omega,g.n38 _ he0.1 he0.2,bnS,az]
     have h4:=λK=>f11_l4_eq t (HL t R f) (E (HL t R f)[i]) K oM oM B 0 (Nat.zero_le _) oM
     simp only[show((0:Nat):Int)=0 from rfl,List.range_zero,List.filter_nil,List.map_nil] at h4
     rw[h4,aX _ (yH (by simp;omega)),w1n oM]
     have:=ih (i+1) (acc++ [bk1 t (HL t R f) E (HL t R f)[i]]) oM oM (by simp;omega)
     rw[List.drop_eq_getElem_cons hlt,List.map_cons]
     refine Eq.trans this ?_
     rw[List.append_assoc];rfl
    ·rw[ltf hlt,cdF,List.drop_eq_nil_of_le oM];simp
  have:=l2 B 0 [] (Nat.zero_le _) oM sM
  simpa using this
end Go.Proofs.YtpodhdopgcedlaaGreatDoor
