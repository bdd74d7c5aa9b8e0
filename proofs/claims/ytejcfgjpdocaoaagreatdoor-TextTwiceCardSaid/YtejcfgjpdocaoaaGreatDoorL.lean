/- Part of the proof. -/
import Derived.KernelRfl
import Derived.Laws.BitsLemmas
import Derived.Test.YtejcfgjpdocaoaaGreatDoorO
set_option linter.unusedVariables false
set_option linter.unusedSimpArgs false
set_option linter.unusedSectionVars false
set_option linter.unnecessarySimpa false
set_option maxRecDepth 10000
namespace Go.Proofs.YtejcfgjpdocaoaaGreatDoor
open Go Go.Sk
theorem w64{x:Int}(h1: -9223372036854775808≤x)(h2:x≤9223372036854775807):IntKind.i64.wrap x=x:=by
 rw[IntKind.wrap_i64];omega
theorem aq{α β:Sort _}(k:α)(f:α→β):an k f=f k:=rfl
theorem ax{α:Type}{L:List α}{i:Nat}(h:i<L.length):idx L (i:Int)=some L[i]:=by
 unfold idx
 rw[dcT (Int.natCast_nonneg i)]
 simp[h]
theorem ct{α:Type}{L:List α}{i:Int}(h:¬(0≤i∧i<L.length)):idx L i=none:=by
 unfold idx
 by_cases h0:0≤i
 ·rw[dcT h0,cdT]
  exact List.getElem?_eq_none oM
 ·rw[dcF h0,cdF]
theorem fp{α:Type}{L:List α}{i:Int}{x:α}(h:idx L i=some x):0≤i∧i<L.length:=⟨aj h,nr h⟩
theorem aX{α:Type}{L:List α}{i:Int}(h:0≤i∧i<L.length):∃x,idx L i=some x∧x∈L:=by
 obtain⟨n,rfl⟩:=Int.eq_ofNat_of_zero_le h.1
 exact⟨_,ax (show n<L.length by omega),List.getElem_mem _⟩
theorem kz{α:Type}{L:List α}{i:Int}{x:α}(h:idx L i=some x):x∈L:=List.mem_of_getElem? (eh h)
theorem aG{α:Type}{L:List α}{i:Nat}(h:i<L.length):L.drop i=L[i]::L.drop (i+1):=List.drop_eq_getElem_cons h
theorem oK{α:Type}{c:Bool}(o:Option α)(h:c=true):bB c o=o:=by rw[h];rfl
theorem rV{κ α:Type}[DecidableEq κ](m:List (κ×α))(k:κ)(v:α)(x:κ):cY (bw m k v) x=if k=x then some v else cY m x:=by
 induction m with
 |nil=>simp[bw,cY]
 |cons p r ih=>
  unfold bw
  by_cases h:p.1=k
  ·rw[if_pos h]
   unfold cY
   by_cases hk:k=x
   ·simp[hk]
   ·simp[hk,h]
  ·rw[if_neg h]
   unfold cY
   rw[ih]
   by_cases hk:p.1=x
   ·have:¬k=x:=λe=>h (by rw[hk,e])
    simp[hk,this]
   ·simp[hk]
def inM{κ:Type}[DecidableEq κ](m:List (κ×Bool))(x:κ):Bool:=Option.getD (cY m x) false
theorem nq{κ:Type}[DecidableEq κ](m:List (κ×Bool))(k x:κ):inM (bw m k true) x=(decide (k=x)||inM m x):=by
 unfold inM
 rw[rV]
 by_cases h:k=x<;>simp[h]
theorem f151_l1_eq(L:List bq)(cb:bq→Option Bool)(p:bq→Bool)(hl:L.length<9223372036854775808):∀(n i:Nat)(z:Int),z=(i:Int)→i≤L.length→L.length<n+i→(∀x∈L.drop i,cb x=some (p x))→∃r,f151_l1 L cb (λ_=>some (-1)) n z=some r∧decide (r≥0)=(L.drop i).any p
 |0,i,z,_,_,h,_=>oM
 |n+1,i,z,hz,hi,h,hp=>by
  subst hz
  rw[f151_l1]
  by_cases hh:i<L.length
  ·rw[aG hh] at hp⊢
   rw[dcT (by omega:(i:Int)<(L.length:Int)),cdT,ax hh,bnS,hp _ List.mem_cons_self,bnS,List.any_cons]
   cases hc:p L[i]
   ·rw[cdF,w64 oM oM,Bool.false_or]
    exact f151_l1_eq L cb p hl n (i+1) _ (by push_cast;rfl) oM oM (λx hx=>hp x (List.mem_cons_of_mem _ hx))
   ·exact⟨_,rfl,by rw[Bool.true_or];exact dcT oM⟩
  ·rw[dcF (by omega:¬(i:Int)<(L.length:Int)),cdF,List.drop_eq_nil_of_le oM]
   exact⟨_,rfl,rfl⟩
theorem f151_eq(L:List bq)(cb:bq→Option Bool)(p:bq→Bool)(hl:L.length<9223372036854775808)(hp:∀x∈L,cb x=some (p x)):∃r,f151 L cb=some r∧decide (r≥0)=L.any p:=by
 unfold f151
 rw[aq]
 exact f151_l1_eq L cb p hl _ 0 0 rfl (Nat.zero_le _) oM hp
theorem f90_eq(L:List bq)(cb:bq→Option Bool)(p:bq→Bool)(hl:L.length<9223372036854775808)(hp:∀x∈L,cb x=some (p x)):f90 L cb=some (L.any p):=by
 obtain⟨r,h1,h2⟩:=f151_eq L cb p hl hp
 unfold f90
 rw[h1,bnS,h2]
theorem f163_l1_eq(L:List Int)(cb:Int→Option Bool)(p:Int→Bool)(hl:L.length<9223372036854775808):∀(n i:Nat)(z:Int),z=(i:Int)→i≤L.length→L.length<n+i→(∀x∈L.drop i,cb x=some (p x))→∃r,f163_l1 L cb (λ_=>some (-1)) n z=some r∧decide (r≥0)=(L.drop i).any p
 |0,i,z,_,_,h,_=>oM
 |n+1,i,z,hz,hi,h,hp=>by
  subst hz
  rw[f163_l1]
  by_cases hh:i<L.length
  ·rw[aG hh] at hp⊢
   rw[dcT (by omega:(i:Int)<(L.length:Int)),cdT,ax hh,bnS,hp _ List.mem_cons_self,bnS,List.any_cons]
   cases hc:p L[i]
   ·rw[cdF,w64 oM oM,Bool.false_or]
    exact f163_l1_eq L cb p hl n (i+1) _ (by push_cast;rfl) oM oM (λx hx=>hp x (List.mem_cons_of_mem _ hx))
   ·exact⟨_,rfl,by rw[Bool.true_or];exact dcT oM⟩
  ·rw[dcF (by omega:¬(i:Int)<(L.length:Int)),cdF,List.drop_eq_nil_of_le oM]
   exact⟨_,rfl,rfl⟩
theorem f163_eq(L:List Int)(cb:Int→Option Bool)(p:Int→Bool)(hl:L.length<9223372036854775808)(hp:∀x∈L,cb x=some (p x)):∃r,f163 L cb=some r∧decide (r≥0)=L.any p:=by
 unfold f163
 rw[aq]
 exact f163_l1_eq L cb p hl _ 0 0 rfl (Nat.zero_le _) oM hp
theorem f112_eq(L:List Int)(cb:Int→Option Bool)(p:Int→Bool)(hl:L.length<9223372036854775808)(hp:∀x∈L,cb x=some (p x)):f112 L cb=some (L.any p):=by
 obtain⟨r,h1,h2⟩:=f163_eq L cb p hl hp
 unfold f112
 rw[h1,bnS,h2]
theorem f98_l1_eq(L:List aE)(cb:aE→Option Bool)(p:aE→Bool)(hl:L.length<9223372036854775808):∀(n i:Nat)(z:Int),z=(i:Int)→i≤L.length→L.length<n+i→(∀x∈L.drop i,cb x=some (p x))→∃r,f98_l1 L cb (λ_=>some (-1)) n z=some r∧decide (r≥0)=(L.drop i).any p
 |0,i,z,_,_,h,_=>oM
 |n+1,i,z,hz,hi,h,hp=>by
  subst hz
  rw[f98_l1]
  by_cases hh:i<L.length
  ·rw[aG hh] at hp⊢
   rw[dcT (by omega:(i:Int)<(L.length:Int)),cdT,ax hh,bnS,hp _ List.mem_cons_self,bnS,List.any_cons]
   cases hc:p L[i]
   ·rw[cdF,w64 oM oM,Bool.false_or]
    exact f98_l1_eq L cb p hl n (i+1) _ (by push_cast;rfl) oM oM (λx hx=>hp x (List.mem_cons_of_mem _ hx))
   ·exact⟨_,rfl,by rw[Bool.true_or];exact dcT oM⟩
  ·rw[dcF (by omega:¬(i:Int)<(L.length:Int)),cdF,List.drop_eq_nil_of_le oM]
   exact⟨_,rfl,rfl⟩
theorem f98_eq(L:List aE)(cb:aE→Option Bool)(p:aE→Bool)(hl:L.length<9223372036854775808)(hp:∀x∈L,cb x=some (p x)):∃r,f98 L cb=some r∧decide (r≥0)=L.any p:=by
 unfold f98
 rw[aq]
 exact f98_l1_eq L cb p hl _ 0 0 rfl (Nat.zero_le _) oM hp
theorem f35_eq(L:List aE)(cb:aE→Option Bool)(p:aE→Bool)(hl:L.length<9223372036854775808)(hp:∀x∈L,cb x=some (p x)):f35 L cb=some (L.any p):=by
 obtain⟨r,h1,h2⟩:=f98_eq L cb p hl hp
 unfold f35
 rw[h1,bnS,h2]
def spot(os:List Obj)(o from_ many:Int):Bool:=match idx os o with
 |some x=>decide (0≤from_)&&decide (from_≤IntKind.i64.wrap (x.size - many))
 |none=>false
theorem f89_eq(t:af)(o f m:Int):f89 ⟨t⟩ o f m=some (spot t.objs o f m):=by
 unfold f89 spot
 by_cases h:0≤o∧o<t.objs.length
 ·obtain⟨x,hx,_⟩:=aX h
  dsimp only
  rw[hx,dcT (show o≥0 from h.1),dcT h.2]
  by_cases hf:0≤f
  ·rw[dcT (show f≥0 from hf)];rfl
  ·rw[dcF (show¬f≥0 from hf)];rfl
 ·dsimp only
  rw[ct h]
  have:(decide (o≥0)&&decide (o<(t.objs.length:Int)))=false:=by
   rw[Bool.and_eq_false_iff]
   simp only[decide_eq_false_iff_not]
   omega
  rw[this];rfl
theorem iL{os:List Obj}{o f m:Int}(h:spot os o f m=true):∃x,idx os o=some x∧0≤f∧f≤IntKind.i64.wrap (x.size - m):=by
 unfold spot at h
 cases hx:idx os o with
 |none=>rw[hx] at h;cases h
 |some x=>
  rw[hx] at h
  simp only[Bool.and_eq_true,decide_eq_true_eq] at h
  exact⟨x,rfl,h⟩
def fits(o:Obj)(v:Int):Bool:=bif o.ptr then decide (v=0)||o.set_.any (λn=>f113 n v) else decide (v≥o.lo)&&decide (v≤o.hi)
theorem f45_eq(o:Obj)(v:Int)(hl:o.set_.length<9223372036854775808):f45 o v=some (fits o v):=by
 unfold f45 fits
 cases hp:o.ptr
 ·rfl
 ·rw[cdT,cdT]
  by_cases hv:v=0
  ·rw[dcT hv];rfl
  ·rw[dcF hv,f112_eq _ _ (λn=>f113 n v) hl λ_ _=>rfl];rfl
def aim(os:List Obj)(x:Int):Bool:=match idx os x with
 |some y=>decide (y.size=1)&& !y.ptr
 |none=>false
def fW(os:List Obj):Int→List Int→Bool
 |_,[]=>true
 |last,x::r=>decide (last<x)&&aim os x&&fW os x r
def dE(os:List Obj)(o:Obj):Bool:=
 !((decide (o.size<1)||decide (o.size>16384))||decide (o.lo>o.hi))&&bif !o.ptr then decide ((o.set_.length:Int)=0) else fW os (-1) o.set_&&(decide (o.lo=0)&&decide (o.hi=0))
theorem f88_l1_eq(t:af)(o:Obj)(r:Option Bool)(hl:o.set_.length<9223372036854775808):∀(n i:Nat)(z last:Int),z=(i:Int)→i≤o.set_.length→o.set_.length<n+i→-1≤last→
  f88_l1 ⟨t⟩ o (λ_=>r) n last z=bif fW t.objs last (o.set_.drop i) then r else some false
 |0,i,z,last,_,_,h,_=>oM
 |n+1,i,z,last,hz,hi,h,hla=>by
  subst hz
  rw[f88_l1]
  by_cases hh:i<o.set_.length
  ·rw[aG hh,fW]
   rw[dcT (by omega:(i:Int)<(o.set_.length:Int)),cdT,ax hh,bnS]
   generalize o.set_[i]=x
   dsimp only
   by_cases h1:last<x
   ·rw[dcT h1,dcF (show¬x≤last by omega),Bool.false_or,Bool.true_and]
    unfold aim
    by_cases h2:x<t.objs.length
    ·obtain⟨y,hy,_⟩:=aX (L:=t.objs) (i:=x) oM
     rw[dcF (show¬x≥(t.objs.length:Int) by omega),cdF,hy]
     simp only[bnS]
     by_cases h3:y.size=1
     ·rw[dcT h3]
      cases h4:y.ptr
      ·rw[w64 oM oM]
       exact f88_l1_eq t o r hl n (i+1) _ x (by push_cast;rfl) oM oM oM
      ·rfl
     ·rw[dcF h3];rfl
    ·rw[ct oM,dcT (show x≥(t.objs.length:Int) by omega)];rfl
   ·rw[dcF h1,dcT (show x≤last by omega)];rfl
  ·rw[dcF (by omega:¬(i:Int)<(o.set_.length:Int)),cdF,List.drop_eq_nil_of_le oM]
   rfl
theorem f88_eq(t:af)(o:Obj)(hl:o.set_.length<9223372036854775808):f88 ⟨t⟩ o=some (dE t.objs o):=by
 unfold f88 dE
 cases h1:(decide (o.size<1)||decide (o.size>16384))||decide (o.lo>o.hi)
 ·rw[cdF,aq,Bool.not_false,Bool.true_and]
  cases h2:o.ptr
  ·rfl
  ·rw[Bool.not_true,cdF,cdF,f88_l1_eq t o _ hl _ 0 0 (-1) rfl (Nat.zero_le _) oM oM,List.drop_zero]
   cases fW t.objs (-1) o.set_<;>rfl
 ·rfl
def m6(n:Int)(L:List Obj):Int:=L.foldl (λn x=>IntKind.i64.wrap (n+x.size)) n
theorem f27_l1_eq(t:af)(k:Int→Option Bool)(hl:t.objs.length<9223372036854775808)(hs:∀o∈t.objs,o.set_.length<9223372036854775808):∀(n i:Nat)(z a:Int),z=(i:Int)→i≤t.objs.length→t.objs.length<n+i→
  f27_l1 ⟨t⟩ k n a z=bif (t.objs.drop i).all (dE t.objs) then k (m6 a (t.objs.drop i)) else some false
 |0,i,z,a,_,_,h=>oM
 |n+1,i,z,a,hz,hi,h=>by
  subst hz
  rw[f27_l1]
  dsimp only
  by_cases hh:i<t.objs.length
  ·rw[aG hh,List.all_cons,dcT (by omega:(i:Int)<(t.objs.length:Int)),cdT,ax hh,bnS,f88_eq t _ (hs _ (List.getElem_mem _)),bnS,w64 (x:=(i:Int)+1) oM oM]
   cases hc:dE t.objs t.objs[i]
   ·rfl
   ·rw[Bool.not_true,cdF,Bool.true_and,f27_l1_eq t k hl hs n (i+1) _ _ (by push_cast;rfl) oM oM]
    rfl
  ·rw[dcF (by omega:¬(i:Int)<(t.objs.length:Int)),cdF,List.drop_eq_nil_of_le oM]
   rfl
def d4(os:List Obj)(x:dM):Bool:=spot os x.o x.slot 1&&(match idx os x.o with|some y=>fits y x.v|none=>false)
def dc(os:List Obj):List ((Int×Int)×Bool)→List dM→Bool
 |_,[]=>true
 |m,x::r=>(!(inM m (x.o,x.slot)))&&d4 os x&&dc os (bw m (x.o,x.slot) true) r
theorem f27_l2_eq(t:af)(r:Option Bool)(hl:t.inits.length<9223372036854775808)(hs:∀o∈t.objs,o.set_.length<9223372036854775808):∀(n i:Nat)(z:Int)(m:List ((Int×Int)×Bool)),z=(i:Int)→i≤t.inits.length→t.inits.length<n+i→
  f27_l2 ⟨t⟩ (λ_=>r) n z m=bif dc t.objs m (t.inits.drop i) then r else some false
 |0,i,z,m,_,_,h=>oM
 |n+1,i,z,m,hz,hi,h=>by
  subst hz
  rw[f27_l2]
  dsimp only
  by_cases hh:i<t.inits.length
  ·rw[aG hh,dc,dcT (by omega:(i:Int)<(t.inits.length:Int)),cdT,ax hh,bnS]
   generalize t.inits[i]=x
   rw[f89_eq,w64 oM oM,f27_l2_eq t r hl hs n (i+1) _ _ (by push_cast;rfl) oM oM]
   show Option.bind (bif inM m (x.o,x.slot) then _ else _) _=_
   cases hm:inM m (x.o,x.slot)
   ·unfold d4
    cases hsp:spot t.objs x.o x.slot 1
    ·rfl
    ·obtain⟨y,hy,_⟩:=iL hsp
     rw[hy]
     simp only[Bool.not_false,Bool.not_true,bnS,cdF,Bool.true_and]
     rw[f45_eq _ _ (hs _ (kz hy))]
     cases fits y x.v<;>rfl
   ·rfl
  ·rw[dcF (by omega:¬(i:Int)<(t.inits.length:Int)),cdF,List.drop_eq_nil_of_le oM]
   rfl
def gp(t:af):Bool:= !((decide ((t.objs.length:Int)>4096)||decide (t.excs<4))||decide (t.excs>64))&&(t.objs.all (dE t.objs)&&(dc t.objs [] t.inits&&decide (m6 0 t.objs≤65536)))
theorem f27_eq(t:af)(hl:t.inits.length<9223372036854775808)(hs:∀o∈t.objs,o.set_.length<9223372036854775808):f27 ⟨t⟩=some (gp t):=by
 unfold f27 gp
 dsimp only
 cases h1:(decide ((t.objs.length:Int)>4096)||decide (t.excs<4))||decide (t.excs>64)
 ·have hol:(t.objs.length:Int)≤4096:=by
   simp only[Bool.or_eq_false_iff,decide_eq_false_iff_not] at h1
   omega
  rw[cdF,aq,f27_l1_eq t _ oM hs _ 0 0 0 rfl (Nat.zero_le _) oM,aq,f27_l2_eq t _ hl hs _ 0 0 [] rfl (Nat.zero_le _) oM]
  simp only[List.drop_zero]
  cases t.objs.all (dE t.objs)<;>cases dc t.objs [] t.inits<;>rfl
 ·rfl
end Go.Proofs.YtejcfgjpdocaoaaGreatDoor
set_option maxRecDepth 10000
namespace Go.Proofs.YtejcfgjpdocaoaaGreatDoor
open Go Go.Sk
def at1(t:af)(a:Int):Bool:=decide (a≥0)&&decide (a<(t.insns.length:Int))
theorem f47_eq(t:af)(a:Int):f47 ⟨t⟩ a=at1 t a:=rfl
theorem eV{t:af}{a:Int}:at1 t a=true↔0≤a∧a<(t.insns.length:Int):=by
 unfold at1;simp only[Bool.and_eq_true,decide_eq_true_eq,ge_iff_le]
def pN(os:List Obj)(x:Int):Bool:=match idx os x with
 |some y=>decide (y.size=1)
 |none=>false
theorem f152_eq(t:af)(x:Int):f152 x ⟨t⟩=some (!(pN t.objs x)):=by
 unfold f152 pN
 dsimp only
 by_cases h:0≤x∧x<t.objs.length
 ·obtain⟨y,hy,_⟩:=aX h
  rw[hy,dcF (show¬x<0 by omega),dcF (show¬x≥(t.objs.length:Int) by omega)]
  rfl
 ·rw[ct h]
  have:(decide (x<0)||decide (x≥(t.objs.length:Int)))=true:=by
   rw[Bool.or_eq_true]
   simp only[decide_eq_true_eq]
   omega
  rw[this];rfl
def dw(os:List Obj)(l:List Int):Bool:=decide ((l.length:Int)≤8)&&l.all (pN os)
theorem ro{α:Type}(p:α→Bool)(L:List α):(!(L.any λx=> !(p x)))=L.all p:=by
 induction L with
 |nil=>rfl
 |cons x L ih=>rw[List.any_cons,List.all_cons,←ih,Bool.not_or,Bool.not_not]
theorem f92_eq(t:af)(l:List Int):f92 ⟨t⟩ l=some (dw t.objs l):=by
 unfold f92 dw
 by_cases h:(l.length:Int)≤8
 ·rw[dcT h,cdT,f112_eq l _ (λx=> !(pN t.objs x)) oM λx _=>f152_eq t x,bnS,ro]
  rfl
 ·rw[dcF h];rfl
def dR(os:List Obj)(e:bq):Bool:=dw os e.ins&&dw os e.outs
theorem f91_eq(t:af)(e:bq):f91 e ⟨t⟩=some (!(dR t.objs e)):=by
 unfold f91 dR
 rw[f92_eq,f92_eq]
 cases dw t.objs e.ins<;>cases dw t.objs e.outs<;>rfl
def eA(t:af)(x:bX):Bool:= !(((((decide (x.prio<0)||decide (x.prio>31))||(!(at1 t x.at_)))||decide (x.deadline<0))||decide (x.deadline>2147483647))||decide ((x.entries.length:Int)>8))&&x.entries.all (dR t.objs)
theorem f28_l1_eq(t:af)(r:Option Bool)(hl:t.tasks.length<9223372036854775808):∀(n i:Nat)(z:Int),z=(i:Int)→i≤t.tasks.length→t.tasks.length<n+i→
  f28_l1 ⟨t⟩ (λ_=>r) n z=bif (t.tasks.drop i).all (eA t) then r else some false
 |0,i,z,_,_,h=>oM
 |n+1,i,z,hz,hi,h=>by
  subst hz
  rw[f28_l1]
  dsimp only
  by_cases hh:i<t.tasks.length
  ·rw[aG hh,List.all_cons,dcT (by omega:(i:Int)<(t.tasks.length:Int)),cdT,ax hh,bnS,f47_eq]
   unfold eA
   generalize t.tasks[i]=x
   cases hc:((((decide (x.prio<0)||decide (x.prio>31))||(!(at1 t x.at_)))||decide (x.deadline<0))||decide (x.deadline>2147483647))||decide ((x.entries.length:Int)>8)
   ·have he:(x.entries.length:Int)≤8:=by
     simp only[Bool.or_eq_false_iff,decide_eq_false_iff_not] at hc
     omega
    rw[cdF,f90_eq x.entries _ (λe=> !(dR t.objs e)) oM λe _=>f91_eq t e,bnS,←ro (dR t.objs),w64 oM oM,f28_l1_eq t r hl n (i+1) _ (by push_cast;rfl) oM oM]
    cases x.entries.any λe=> !(dR t.objs e)<;>rfl
   ·rfl
  ·rw[dcF (by omega:¬(i:Int)<(t.tasks.length:Int)),cdF,List.drop_eq_nil_of_le oM]
   rfl
def dq(t:af):Bool:= !(decide ((t.tasks.length:Int)<1)||decide ((t.tasks.length:Int)>32))&&t.tasks.all (eA t)
theorem f28_eq(t:af):f28 ⟨t⟩=some (dq t):=by
 unfold f28 dq
 dsimp only
 cases h1:decide ((t.tasks.length:Int)<1)||decide ((t.tasks.length:Int)>32)
 ·have hol:(t.tasks.length:Int)≤32:=by
   simp only[Bool.or_eq_false_iff,decide_eq_false_iff_not] at h1
   omega
  rw[cdF,aq,f28_l1_eq t _ oM _ 0 0 rfl (Nat.zero_le _) oM,List.drop_zero]
  cases t.tasks.all (eA t)<;>rfl
 ·rfl
def fc(n:Int):List (Int×Bool)→List Int→Bool
 |_,[]=>true
 |m,x::r=>(!((decide (x<1)||decide (x≥n))||inM m x))&&fc n (bw m x true) r
theorem f29_l2_eq(t:af)(l:List Int)(r:Option Bool)(hl:l.length<9223372036854775808):∀(n i:Nat)(z:Int)(m:List (Int×Bool)),z=(i:Int)→i≤l.length→l.length<n+i→
  f29_l2 ⟨t⟩ l (λ_=>r) n z m=bif fc t.tasks.length m (l.drop i) then r else some false
 |0,i,z,m,_,_,h=>oM
 |n+1,i,z,m,hz,hi,h=>by
  subst hz
  rw[f29_l2]
  dsimp only
  by_cases hh:i<l.length
  ·rw[aG hh,fc,dcT (by omega:(i:Int)<(l.length:Int)),cdT,ax hh,bnS,w64 oM oM,f29_l2_eq t l r hl n (i+1) _ _ (by push_cast;rfl) oM oM]
   show(bif (_||inM m l[i]) then _ else _)=_
   cases (decide (l[i]<1)||decide (l[i]≥(t.tasks.length:Int)))||inM m l[i]<;>rfl
  ·rw[dcF (by omega:¬(i:Int)<(l.length:Int)),cdF,List.drop_eq_nil_of_le oM]
   rfl
def iT(t:af)(l:List Int):Bool:=fc t.tasks.length [] l&& !(decide ((l.length:Int)>32))
theorem f29_l1_eq(t:af)(r:Option Bool)(hl:t.lists.length<9223372036854775808)(hs:∀l∈t.lists,l.length<9223372036854775808):∀(n i:Nat)(z:Int),z=(i:Int)→i≤t.lists.length→t.lists.length<n+i→
  f29_l1 ⟨t⟩ (λ_=>r) n z=bif (t.lists.drop i).all (iT t) then r else some false
 |0,i,z,_,_,h=>oM
 |n+1,i,z,hz,hi,h=>by
  subst hz
  rw[f29_l1]
  dsimp only
  by_cases hh:i<t.lists.length
  ·rw[aG hh,List.all_cons,dcT (by omega:(i:Int)<(t.lists.length:Int)),cdT,aq,ax hh,bnS,aq]
   have hx:=hs _ (List.getElem_mem hh)
   generalize t.lists[i]=x at hx
   unfold iT
   rw[f29_l2_eq t x _ hx _ 0 0 [] rfl (Nat.zero_le _) oM,w64 oM oM,f29_l1_eq t r hl hs n (i+1) _ (by push_cast;rfl) oM oM,List.drop_zero]
   cases fc t.tasks.length [] x<;>cases decide ((x.length:Int)>32)<;>rfl
  ·rw[dcF (by omega:¬(i:Int)<(t.lists.length:Int)),cdF,List.drop_eq_nil_of_le oM]
   rfl
def gt(t:af):Bool:= !(decide ((t.lists.length:Int)>4096))&&t.lists.all (iT t)
theorem f29_eq(t:af)(hs:∀l∈t.lists,l.length<9223372036854775808):f29 ⟨t⟩=some (gt t):=by
 unfold f29 gt
 dsimp only
 cases h1:decide ((t.lists.length:Int)>4096)
 ·have hol:(t.lists.length:Int)≤4096:=by
   simp only[decide_eq_false_iff_not] at h1
   omega
  rw[cdF,aq,f29_l1_eq t _ oM hs _ 0 0 rfl (Nat.zero_le _) oM,List.drop_zero]
  cases t.lists.all (iT t)<;>rfl
 ·rfl
def fq(t:af)(obj:Int)(a:cD):Bool:=
 at1 t a.at_&&(decide (a.guard= -1)||spot t.objs obj a.guard 1)&&
 bif decide (a.kind=1) then(decide (a.entry≥0)&&decide (a.entry<8))&&decide (a.time=0)
 else bif decide (a.kind=2)||decide (a.kind=3) then decide (a.entry=0)&&spot t.objs obj a.time 1
 else decide (a.kind=4)&&decide ((IntKind.i64.wrap (BitVec.ofInt IntKind.i64.bits a.entry|||BitVec.ofInt IntKind.i64.bits a.time).toNat)=0)
theorem f157_eq(t:af)(n o:Int):f157 n ⟨t⟩ o=some (spot t.objs o n 1):=by
 unfold f157
 rw[f89_eq];rfl
theorem f96_eq(t:af)(o:Int)(a:cD):f96 ⟨t⟩ o a=some (fq t o a):=by
 unfold f96 fq
 rw[f47_eq,f157_eq,f157_eq]
 simp only[aq,bnS]
 cases at1 t a.at_
 ·rfl
 ·cases decide (a.guard= -1)
  ·cases spot t.objs o a.guard 1
   ·rfl
   ·cases decide (a.kind=1)
    ·cases decide (a.kind=2)<;>cases decide (a.kind=3)<;>cases decide (a.entry=0)<;>rfl
    ·rfl
  ·cases decide (a.kind=1)
   ·cases decide (a.kind=2)<;>cases decide (a.kind=3)<;>cases decide (a.entry=0)<;>rfl
   ·rfl
theorem f31_l2_eq(t:af)(x:aZ)(k:Int→Option Bool)(a b:Option Bool)(ha:∀i:Int,0≤i→k i=a)(hl:x.alts.length<9223372036854775808):∀(n i:Nat)(z:Int),z=(i:Int)→i≤x.alts.length→x.alts.length<n+i→
  f31_l2 ⟨t⟩ x k (λ_=>b) n z=bif (x.alts.drop i).all (fq t x.obj) then b else a
 |0,i,z,_,_,h=>oM
 |n+1,i,z,hz,hi,h=>by
  subst hz
  rw[f31_l2]
  by_cases hh:i<x.alts.length
  ·rw[aG hh,List.all_cons,dcT (by omega:(i:Int)<(x.alts.length:Int)),cdT,ax hh,bnS,aq,f96_eq,bnS]
   cases fq t x.obj x.alts[i]
   ·exact ha _ oM
   ·dsimp only
    rw[Bool.not_true,cdF,w64 oM oM,f31_l2_eq t x k a b ha hl n (i+1) _ (by push_cast;rfl) oM oM,Bool.true_and]
  ·rw[dcF (by omega:¬(i:Int)<(x.alts.length:Int)),cdF,List.drop_eq_nil_of_le oM]
   rfl
def fX(t:af)(x:aZ):Bool:= !((((decide ((x.alts.length:Int)<1)||decide ((x.alts.length:Int)>16))||decide (x.obj<0))||decide (x.obj≥(t.objs.length:Int)))||((!decide (x.else_= -1))&&(!(at1 t x.else_))))&&x.alts.all (fq t x.obj)
theorem f31_l1_eq(t:af)(r:Option Bool)(hl:t.selects.length<9223372036854775808):∀(n i:Nat)(z:Int),z=(i:Int)→i≤t.selects.length→t.selects.length<n+i→
  f31_l1 ⟨t⟩ (λ_=>r) n z=bif (t.selects.drop i).all (fX t) then r else some false
 |0,i,z,_,_,h=>oM
 |n+1,i,z,hz,hi,h=>by
  subst hz
  rw[f31_l1]
  dsimp only
  by_cases hh:i<t.selects.length
  ·rw[aG hh,List.all_cons,dcT (by omega:(i:Int)<(t.selects.length:Int)),cdT,ax hh,bnS,f47_eq]
   generalize t.selects[i]=x
   unfold fX
   cases hc:(((decide ((x.alts.length:Int)<1)||decide ((x.alts.length:Int)>16))||decide (x.obj<0))||decide (x.obj≥(t.objs.length:Int)))||((!decide (x.else_= -1))&&(!(at1 t x.else_)))
   ·have he:(x.alts.length:Int)≤16:=by
     simp only[Bool.or_eq_false_iff,decide_eq_false_iff_not] at hc
     omega
    simp only[aq]
    rw[cdF,f31_l2_eq t x _ (some false) _ (λi h=>by rw[dcT (show i≥0 from h)];rfl) oM _ 0 0 rfl (Nat.zero_le _) oM,List.drop_zero,w64 oM oM,f31_l1_eq t r hl n (i+1) _ (by push_cast;rfl) oM oM]
    cases x.alts.all (fq t x.obj)<;>rfl
   ·rfl
  ·rw[dcF (by omega:¬(i:Int)<(t.selects.length:Int)),cdF,List.drop_eq_nil_of_le oM]
   rfl
def j0(t:af):Bool:= !(decide ((t.selects.length:Int)>1024))&&t.selects.all (fX t)
theorem f31_eq(t:af):f31 ⟨t⟩=some (j0 t):=by
 unfold f31 j0
 dsimp only
 cases h1:decide ((t.selects.length:Int)>1024)
 ·have hol:(t.selects.length:Int)≤1024:=by
   simp only[decide_eq_false_iff_not] at h1
   omega
  rw[cdF,aq,f31_l1_eq t _ oM _ 0 0 rfl (Nat.zero_le _) oM,List.drop_zero]
  cases t.selects.all (fX t)<;>rfl
 ·rfl
def ik(h g:aD):Bool:= !((!(decide (g.from_≥h.from_)&&decide (g.to≤h.to)))&&decide ((if h.from_>g.from_ then h.from_ else g.from_)<(if h.to<g.to then h.to else g.to)))
theorem oh{α:Type}(L:List α)(i:Nat):cB L 0 (i:Int)=L.take i:=by simp[cB]
theorem f32_l2_eq(t:af)(j:Nat)(h0:aD)(r:Option Bool)(hj:j≤t.handlers.length)(hl:t.handlers.length<9223372036854775808):∀(n i:Nat)(z:Int),z=(i:Int)→i≤j→j<n+i→
  f32_l2 ⟨t⟩ (j:Int) (λ_ _ _ _=>r) h0 n z=bif ((t.handlers.take j).drop i).all (ik h0) then r else some false
 |0,i,z,_,_,h=>oM
 |n+1,i,z,hz,hi,h=>by
  subst hz
  have hL:(t.handlers.take j).length=j:=by rw[List.length_take];omega
  rw[f32_l2]
  dsimp only
  rw[oh]
  by_cases hh:i<(t.handlers.take j).length
  ·rw[aG hh,List.all_cons,dcT (by omega:(i:Int)<((t.handlers.take j).length:Int)),cdT,ax hh,bnS,w64 oM oM,f32_l2_eq t j h0 r hj hl n (i+1) _ (by push_cast;rfl) oM oM]
   generalize(t.handlers.take j)[i]=g
   unfold ik
   cases (!(decide (g.from_≥h0.from_)&&decide (g.to≤h0.to)))&&decide ((if h0.from_>g.from_ then h0.from_ else g.from_)<(if h0.to<g.to then h0.to else g.to))<;>rfl
  ·rw[dcF (by omega:¬(i:Int)<((t.handlers.take j).length:Int)),cdF,List.drop_eq_nil_of_le oM]
   rfl
def d5(t:af)(x:aD):Bool:=((((decide (x.from_<0))||(decide (x.from_≥x.to)))||(decide (x.to>(t.insns.length:Int))))||(!(at1 t x.at_)))||(f50 x x.at_)
def eB(t:af):List aD→List aD→Bool
 |_,[]=>true
 |P,x::r=>(!(d5 t x))&&P.all (ik x)&&eB t (P++ [x]) r
theorem f32_l1_eq(t:af)(r:Option Bool)(hl:t.handlers.length<9223372036854775808):∀(n i:Nat)(z:Int),z=(i:Int)→i≤t.handlers.length→t.handlers.length<n+i→
  f32_l1 ⟨t⟩ (λ_=>r) n z=bif eB t (t.handlers.take i) (t.handlers.drop i) then r else some false
 |0,i,z,_,_,h=>oM
 |n+1,i,z,hz,hi,h=>by
  subst hz
  rw[f32_l1]
  dsimp only
  by_cases hh:i<t.handlers.length
  ·have hL:(t.handlers.take i).length=i:=by rw[List.length_take];omega
   rw[aG hh,eB,←List.take_succ_eq_append_getElem hh,dcT (by omega:(i:Int)<(t.handlers.length:Int)),cdT,aq,ax hh,bnS,f47_eq,oK _ (by simp[fB];omega),oh,w64 oM oM,f32_l2_eq t i _ _ oM hl _ 0 0 rfl (Nat.zero_le _) oM,f32_l1_eq t r hl n (i+1) _ (by push_cast;rfl) oM oM,List.drop_zero]
   generalize t.handlers[i]=x
   show(bif d5 t x then _ else _)=_
   cases d5 t x<;>cases (t.handlers.take i).all (ik x)<;>rfl
  ·rw[dcF (by omega:¬(i:Int)<(t.handlers.length:Int)),cdF,List.drop_eq_nil_of_le oM]
   rfl
def iV(t:af):Bool:= !(decide ((t.handlers.length:Int)>4096))&&eB t [] t.handlers
theorem f32_eq(t:af):f32 ⟨t⟩=some (iV t):=by
 unfold f32 iV
 dsimp only
 cases h1:decide ((t.handlers.length:Int)>4096)
 ·have hol:(t.handlers.length:Int)≤4096:=by
   simp only[decide_eq_false_iff_not] at h1
   omega
  rw[cdF,aq,f32_l1_eq t _ oM _ 0 0 rfl (Nat.zero_le _) oM,List.drop_zero,List.take_zero]
  cases eB t [] t.handlers<;>rfl
 ·rfl
def pR(t:af)(x:Loop):Bool:=(!((decide (x.head<0)||decide (x.head>x.back))||(!(at1 t x.back))))&&(match idx t.insns x.back with|some y=>f97 y x.head|none=>false)&& !(decide (x.bound<0)||decide (x.bound>2147483647))
def gr(t:af):List (Int×Bool)→List Loop→Bool
 |_,[]=>true
 |m,x::r=>(!(inM m x.back))&&pR t x&&gr t (bw m x.back true) r
theorem f33_l1_eq(t:af)(r:Option Bool)(hl:t.loops.length<9223372036854775808):∀(n i:Nat)(z:Int)(m:List (Int×Bool)),z=(i:Int)→i≤t.loops.length→t.loops.length<n+i→
  f33_l1 ⟨t⟩ (λ_=>r) n z m=bif gr t m (t.loops.drop i) then r else some false
 |0,i,z,m,_,_,h=>oM
 |n+1,i,z,m,hz,hi,h=>by
  subst hz
  rw[f33_l1]
  dsimp only
  by_cases hh:i<t.loops.length
  ·rw[aG hh,gr,dcT (by omega:(i:Int)<(t.loops.length:Int)),cdT,ax hh,bnS,f47_eq,w64 oM oM,f33_l1_eq t r hl n (i+1) _ _ (by push_cast;rfl) oM oM]
   generalize t.loops[i]=x
   unfold pR
   show Option.bind (bif (_||inM m x.back) then _ else _) _=_
   cases h1:(decide (x.head<0)||decide (x.head>x.back))||(!(at1 t x.back))
   ·cases inM m x.back
    ·have h2:at1 t x.back=true:=by
      cases h:at1 t x.back
      ·rw[h] at h1;simp at h1
      ·rfl
     obtain⟨y,hy,_⟩:=aX (eV.1 h2)
     rw[hy]
     simp only[bnS,Bool.or_self,cdF,Bool.not_false,Bool.true_and,Bool.or_assoc]
     cases f97 y x.head<;>cases (decide (x.bound<0)||decide (x.bound>2147483647))<;>rfl
    ·rfl
   ·cases inM m x.back<;>rfl
  ·rw[dcF (by omega:¬(i:Int)<(t.loops.length:Int)),cdF,List.drop_eq_nil_of_le oM]
   rfl
def oE(t:af):Bool:= !(decide ((t.loops.length:Int)>4096))&&gr t [] t.loops
theorem f33_eq(t:af):f33 ⟨t⟩=some (oE t):=by
 unfold f33 oE
 dsimp only
 cases h1:decide ((t.loops.length:Int)>4096)
 ·have hol:(t.loops.length:Int)≤4096:=by
   simp only[decide_eq_false_iff_not] at h1
   omega
  rw[cdF,aq,f33_l1_eq t _ oM _ 0 0 [] rfl (Nat.zero_le _) oM,List.drop_zero]
  cases gr t [] t.loops<;>rfl
 ·rfl
def chk(t:af)(a:Int):Bool:=match idx t.insns a with
 |some x=>decide (x.op=27)||decide (x.op=28)
 |none=>false
theorem f61_eq(t:af)(a:Int):f61 ⟨t⟩ a=some (chk t a):=by
 unfold f61 chk
 rw[f47_eq]
 dsimp only
 cases h:at1 t a
 ·rw[ct (λhh=>by rw[eV.2 hh] at h;cases h)];rfl
 ·obtain⟨y,hy,_⟩:=aX (eV.1 h)
  rw[hy]
  dsimp only[bnS,cdT]
  cases decide (y.op=27)<;>rfl
def f'(t:af):Int→List bM→Bool
 |_,[]=>true
 |last,x::r=>((decide (last<x.at_)&&chk t x.at_)&& !(decide (x.kind<1)||decide (x.kind>5)))&&f' t x.at_ r
theorem f34_l1_eq(t:af)(r:Option Bool)(hl:t.checks.length<9223372036854775808):∀(n i:Nat)(z last:Int),z=(i:Int)→i≤t.checks.length→t.checks.length<n+i→
  f34_l1 ⟨t⟩ (λ_=>r) n last z=bif f' t last (t.checks.drop i) then r else some false
 |0,i,z,last,_,_,h=>oM
 |n+1,i,z,last,hz,hi,h=>by
  subst hz
  rw[f34_l1]
  dsimp only
  by_cases hh:i<t.checks.length
  ·rw[aG hh,f',dcT (by omega:(i:Int)<(t.checks.length:Int)),cdT,ax hh,bnS,f61_eq,w64 oM oM,f34_l1_eq t r hl n (i+1) _ _ (by push_cast;rfl) oM oM]
   generalize t.checks[i]=x
   by_cases h1:last<x.at_
   ·rw[dcT h1,dcF (show¬x.at_≤last by omega)]
    cases chk t x.at_<;>cases decide (x.kind<1)<;>cases decide (x.kind>5)<;>rfl
   ·rw[dcF h1,dcT (show x.at_≤last by omega)];rfl
  ·rw[dcF (by omega:¬(i:Int)<(t.checks.length:Int)),cdF,List.drop_eq_nil_of_le oM]
   rfl
theorem f34_eq(t:af)(hl:t.checks.length<9223372036854775808):f34 ⟨t⟩=some (f' t (-1) t.checks):=by
 unfold f34
 dsimp only
 rw[aq,f34_l1_eq t _ hl _ 0 0 (-1) rfl (Nat.zero_le _) oM,List.drop_zero]
 cases f' t (-1) t.checks<;>rfl
end Go.Proofs.YtejcfgjpdocaoaaGreatDoor
set_option maxRecDepth 10000
namespace Go.Proofs.YtejcfgjpdocaoaaGreatDoor
open Go Go.Sk
def bz(os:List Obj)(ent:Int)(e:ap):Bool×Int×Int×Int×Int×Int:=
 bif decide (e.kind=1) then(true,0,0,e.n,0,0) else
 bif decide (e.kind=2) then(bif spot os e.o e.off 1&&(match idx os e.o with|some y=> !y.ptr|none=>false) then(true,0,0,0,e.o,e.off) else(false,0,0,0,0,0)) else
 bif decide (e.kind=14) then(decide (e.n≥0)&&decide (e.n<ent),0,0,e.n,0,0) else
 bif decide (e.kind=4) then(true,1,18,0,0,0) else
 bif decide (e.kind=5) then(true,2,(if(if 15<e.op then 15 else e.op)>7 then(if 15<e.op then 15 else e.op) else 7),0,0,0) else
 bif decide (e.kind=6)||decide (e.kind=7) then(true,2,0,0,0,0) else(false,0,0,0,0,0)
def cL(os:List Obj)(ent:Int)(e:ap):Bool:=
 ((((((((!(bz os ent e).1)||(!decide ((List.length e.l:Int)=(bz os ent e).2.1)))||(!decide (e.op=(bz os ent e).2.2.1)))||(!decide (e.n=(bz os ent e).2.2.2.1)))||(!decide (e.o=(bz os ent e).2.2.2.2.1)))||(!decide (e.off=(bz os ent e).2.2.2.2.2)))||(!decide (e.len=0)))||(!decide (e.lo=0)))||(!decide (e.hi=0))
def exL(rec:Int→ap→Bool×Int):List ap→Int→Bool×Int
 |[],l=>(true,l)
 |e::r,l=>bif (rec l e).1 then exL rec r (rec l e).2 else(false,(rec l e).2)
def exF(os:List Obj)(ent:Int):Nat→Int→Int→ap→Bool×Int
 |0,_,left,_=>(false,left)
 |n+1,deep,left,e=>
  bif (decide (IntKind.i64.wrap (left - 1)<0)||decide (deep>64))||cL os ent e then(false,IntKind.i64.wrap (left - 1))
  else exL (exF os ent n (deep+1)) e.l (IntKind.i64.wrap (left - 1))
theorem kT(os:List Obj)(ent:Int)(e:ap):(bz os ent e).2.1≤2:=by
 unfold bz
 cases decide (e.kind=1)<;>cases decide (e.kind=2)<;>cases decide (e.kind=14)<;>cases decide (e.kind=4)<;>cases decide (e.kind=5)<;>cases (decide (e.kind=6)||decide (e.kind=7))<;>simp<;>cases (spot os e.o e.off 1&&(match idx os e.o with|some y=> !y.ptr|none=>false))<;>simp
abbrev Rt:Type:=Bool×(List aE)×(List aD)×(List Loop)×(List aZ)×(List (List Int))×(List Obj)×(List dM)×Int×(List bX)×(List d7)×(List bM)×Int×Int
abbrev Re:Type:=(List aE)→(List aD)→(List Loop)→(List aZ)→(List (List Int))→(List Obj)→(List dM)→Int→(List bX)→(List d7)→(List bM)→Int→Int→ap→Int→Option Rt
section
variable(v0:List aE)(v1:List aD)(v2:List Loop)(v3:List aZ)(v4:List (List Int))(v5:List Obj)(v6:List dM)(v7:Int)(v8:List bX)(v9:List d7)(v10:List bM)(ent:Int)
def nf(z:Bool×Int):Option Rt:=some (z.1,v0,v1,v2,v3,v4,v5,v6,v7,v8,v9,v10,ent,z.2)
theorem f93s_l1_eq(rec:Re)(g:Int→ap→Bool×Int)(e:ap)(deep:Int)
  (hrec:∀l x,rec v0 v1 v2 v3 v4 v5 v6 v7 v8 v9 v10 ent l x (IntKind.i64.wrap (deep+1))=nf v0 v1 v2 v3 v4 v5 v6 v7 v8 v9 v10 ent (g l x))
  (ka:Int→(List aE)→(List aD)→(List Loop)→(List aZ)→(List (List Int))→(List Obj)→(List dM)→Int→(List bX)→(List d7)→(List bM)→Int→Int→Option Rt)
  (kb:(List aE)→(List aD)→(List Loop)→(List aZ)→(List (List Int))→(List Obj)→(List dM)→Int→(List bX)→(List d7)→(List bM)→Int→Int→Option Rt)
  (ha:∀(i:Int) l,0≤i→ka i v0 v1 v2 v3 v4 v5 v6 v7 v8 v9 v10 ent l=nf v0 v1 v2 v3 v4 v5 v6 v7 v8 v9 v10 ent (false,l))
  (hb:∀l,kb v0 v1 v2 v3 v4 v5 v6 v7 v8 v9 v10 ent l=nf v0 v1 v2 v3 v4 v5 v6 v7 v8 v9 v10 ent (true,l))
  (hl:e.l.length<9223372036854775808):∀(n i:Nat)(z l:Int),z=(i:Int)→i≤e.l.length→e.l.length<n+i→
  f93s_l1 rec e deep ka kb n z v0 v1 v2 v3 v4 v5 v6 v7 v8 v9 v10 ent l=nf v0 v1 v2 v3 v4 v5 v6 v7 v8 v9 v10 ent (exL g (e.l.drop i) l)
 |0,i,z,l,_,_,h=>oM
 |n+1,i,z,l,hz,hi,h=>by
  subst hz
  rw[f93s_l1]
  by_cases hh:i<e.l.length
  ·rw[aG hh,exL,dcT (by omega:(i:Int)<(e.l.length:Int)),cdT,ax hh,bnS,aq,hrec]
   unfold nf
   dsimp only[bnS]
   cases (g l e.l[i]).1
   ·exact ha _ _ oM
   ·rw[Bool.not_true,cdF,w64 oM oM]
    exact f93s_l1_eq rec g e deep hrec ka kb ha hb hl n (i+1) _ _ (by push_cast;rfl) oM oM
  ·rw[dcF (by omega:¬(i:Int)<(e.l.length:Int)),cdF,List.drop_eq_nil_of_le oM]
   exact hb _
theorem f93s_eq(rec:Re)(g:Int→ap→Bool×Int)(e:ap)(deep left:Int)
  (hrec:deep≤64→∀l x,rec v0 v1 v2 v3 v4 v5 v6 v7 v8 v9 v10 ent l x (IntKind.i64.wrap (deep+1))=nf v0 v1 v2 v3 v4 v5 v6 v7 v8 v9 v10 ent (g l x)):∀z,f93s rec v0 v1 v2 v3 v4 v5 v6 v7 v8 v9 v10 ent left e deep=z→
  z=nf v0 v1 v2 v3 v4 v5 v6 v7 v8 v9 v10 ent (bif (decide (IntKind.i64.wrap (left - 1)<0)||decide (deep>64))||cL v5 ent e then(false,IntKind.i64.wrap (left - 1)) else exL g e.l (IntKind.i64.wrap (left - 1))):=by
 intro z h
 unfold f93s at h
 obtain⟨K,hK,h⟩:=az h
 have h':K (bz v5 ent e).1 (bz v5 ent e).2.1 (ap.mk e.kind (bz v5 ent e).2.2.1 (bz v5 ent e).2.2.2.1 (bz v5 ent e).2.2.2.2.1 (bz v5 ent e).2.2.2.2.2 0 0 0 []) (bz v5 ent e).2.2.1 (bz v5 ent e).2.2.2.1 (bz v5 ent e).2.2.2.2.1 (bz v5 ent e).2.2.2.2.2=z:=by
  rw[←h,aq]
  unfold bz
  cases decide (e.kind=1)
  ·cases decide (e.kind=2)
   ·cases decide (e.kind=14)
    ·cases decide (e.kind=4)
     ·cases decide (e.kind=5)
      ·cases decide (e.kind=6)<;>cases decide (e.kind=7)<;>rfl
      ·rfl
     ·rfl
    ·cases decide (e.n≥0)<;>rfl
   ·rw[f89_eq]
    dsimp only[bnS,cdT,cdF]
    cases hs:spot v5 e.o e.off 1
    ·rfl
    ·obtain⟨y,hy,_⟩:=iL hs
     rw[hy]
     dsimp only[bnS,cdT,cdF]
     cases y.ptr<;>rfl
  ·rfl
 clear h
 rw[hK] at h'
 dsimp only at h'
 have hc:=kT v5 ent e
 have e1:(((((((((((decide (IntKind.i64.wrap (left - 1)<0))||(decide (deep>64)))||(!(bz v5 ent e).1))||(!decide ((List.length e.l:Int)=(bz v5 ent e).2.1)))||(!decide (e.op=(bz v5 ent e).2.2.1)))||(!decide (e.n=(bz v5 ent e).2.2.2.1)))||(!decide (e.o=(bz v5 ent e).2.2.2.2.1)))||(!decide (e.off=(bz v5 ent e).2.2.2.2.2)))||(!decide (e.len=0)))||(!decide (e.lo=0)))||(!decide (e.hi=0)))=((decide (IntKind.i64.wrap (left - 1)<0)||decide (deep>64))||cL v5 ent e):=by
  unfold cL
  simp only[Bool.or_assoc]
 rw[e1] at h'
 cases hbad:(decide (IntKind.i64.wrap (left - 1)<0)||decide (deep>64))||cL v5 ent e
 ·rw[hbad,cdF] at h'
  have hd:deep≤64:=by
   simp only[Bool.or_eq_false_iff,decide_eq_false_iff_not] at hbad
   omega
  have hlen:e.l.length≤2:=by
   simp only[Bool.or_eq_false_iff] at hbad
   have:=hbad.2
   unfold cL at this
   simp only[Bool.or_eq_false_iff,Bool.not_eq_false',decide_eq_true_eq] at this
   have:=this.1.1.1.1.1.1.1.2
   omega
  simp only[aq] at h'
  rw[f93s_l1_eq v0 v1 v2 v3 v4 v5 v6 v7 v8 v9 v10 ent rec g e deep (hrec hd) _ _ (λi l h0=>by rw[dcT (show i≥0 from h0)];rfl) (λl=>rfl) oM _ 0 0 _ rfl (Nat.zero_le _) oM,List.drop_zero] at h'
  rw[←h',cdF]
 ·rw[hbad,cdT] at h'
  rw[←h',cdT]
  rfl
theorem f93_eq:∀(n:Nat)(deep left:Int)(e:ap),1≤deep→deep≤65→66<n+deep→f93 n v0 v1 v2 v3 v4 v5 v6 v7 v8 v9 v10 ent left e deep=nf v0 v1 v2 v3 v4 v5 v6 v7 v8 v9 v10 ent (exF v5 ent n deep left e)
 |0,deep,left,e,h0,h1,h2=>oM
 |n+1,deep,left,e,h0,h1,h2=>by
  rw[f93,exF]
  exact f93s_eq v0 v1 v2 v3 v4 v5 v6 v7 v8 v9 v10 ent (f93 n) (exF v5 ent n (deep+1)) e deep left (λhd l x=>by
   rw[w64 oM oM]
   exact f93_eq n (deep+1) l x oM oM oM) _ rfl
end
def jd(t:af)(ent:Int)(e:ap):Bool:=(exF t.objs ent 66 1 256 e).1
theorem f30_l2_eq(t:af)(x:d7)(r:Option Bool)(hl:x.barriers.length<9223372036854775808):∀(n i:Nat)(z:Int),z=(i:Int)→i≤x.barriers.length→x.barriers.length<n+i→
  f30_l2 ⟨t⟩ (λ_ _=>r) x n z=bif (x.barriers.drop i).all (jd t x.barriers.length) then r else some false
 |0,i,z,_,_,h=>oM
 |n+1,i,z,hz,hi,h=>by
  subst hz
  rw[f30_l2]
  dsimp only
  by_cases hh:i<x.barriers.length
  ·rw[aG hh,List.all_cons,dcT (by omega:(i:Int)<(x.barriers.length:Int)),cdT,ax hh,bnS,f93_eq _ _ _ _ _ _ _ _ _ _ _ _ 66 1 256 _ oM oM oM,w64 oM oM,f30_l2_eq t x r hl n (i+1) _ (by push_cast;rfl) oM oM]
   unfold nf jd
   dsimp only[bnS]
   cases (exF t.objs x.barriers.length 66 1 256 x.barriers[i]).1<;>rfl
  ·rw[dcF (by omega:¬(i:Int)<(x.barriers.length:Int)),cdF,List.drop_eq_nil_of_le oM]
   rfl
def fE(t:af)(x:d7):Bool:= !((decide (x.ceiling<0)||decide (x.ceiling>31))||decide ((x.barriers.length:Int)>8))&&x.barriers.all (jd t x.barriers.length)
theorem f30_l1_eq(t:af)(r:Option Bool)(hl:t.prots.length<9223372036854775808):∀(n i:Nat)(z:Int),z=(i:Int)→i≤t.prots.length→t.prots.length<n+i→
  f30_l1 ⟨t⟩ (λ_=>r) n z=bif (t.prots.drop i).all (fE t) then r else some false
 |0,i,z,_,_,h=>oM
 |n+1,i,z,hz,hi,h=>by
  subst hz
  rw[f30_l1]
  dsimp only
  by_cases hh:i<t.prots.length
  ·rw[aG hh,List.all_cons,dcT (by omega:(i:Int)<(t.prots.length:Int)),cdT,aq,ax hh,bnS]
   generalize t.prots[i]=x
   unfold fE
   cases hc:(decide (x.ceiling<0)||decide (x.ceiling>31))||decide ((x.barriers.length:Int)>8)
   ·have he:(x.barriers.length:Int)≤8:=by
     simp only[Bool.or_eq_false_iff,decide_eq_false_iff_not] at hc
     omega
    rw[cdF,f30_l2_eq t x _ oM _ 0 0 rfl (Nat.zero_le _) oM,w64 oM oM,f30_l1_eq t r hl n (i+1) _ (by push_cast;rfl) oM oM,List.drop_zero]
    cases x.barriers.all (jd t x.barriers.length)<;>rfl
   ·rfl
  ·rw[dcF (by omega:¬(i:Int)<(t.prots.length:Int)),cdF,List.drop_eq_nil_of_le oM]
   rfl
def gi(t:af):Bool:=t.prots.all (fE t)&&decide ((t.prots.length:Int)≤32)
theorem f30_eq(t:af)(hl:t.prots.length<9223372036854775808):f30 ⟨t⟩=some (gi t):=by
 unfold f30 gi
 dsimp only
 rw[aq,f30_l1_eq t _ hl _ 0 0 rfl (Nat.zero_le _) oM,List.drop_zero]
 cases t.prots.all (fE t)<;>rfl
end Go.Proofs.YtejcfgjpdocaoaaGreatDoor
set_option maxRecDepth 10000
namespace Go.Proofs.YtejcfgjpdocaoaaGreatDoor
open Go Go.Sk
def prs(o:Int):Option (List ByteArray):=(f158 o).bind λr=>f186 r.1.fields
def ch(s:ByteArray):Int×Int:=((eK s 0).getD 0,(eK s 1).getD 0)
def lu(o:Int):List (Int×Int):=((prs o).getD []).map ch
theorem xO:∀k,k<57→(match prs ((k:Nat)+1:Int) with|some l=>Nat.blt l.length 100&&l.all λs=>(eK s 0).isSome&&(eK s 1).isSome|none=>false)=true:=by decide+kernel
theorem f158_ok:∀k,k<57→(match f158 ((k:Nat)+1:Int) with|some r=>r.2|none=>false)=true:=by decide+kernel
theorem f158_eq{o:Int}(h1:1≤o)(h2:o≤57):∃r,f158 o=some (r,true):=by
 obtain⟨k,rfl⟩:∃k:Nat,o=(k:Int)+1:=⟨(o - 1).toNat,oM⟩
 have:=f158_ok k oM
 cases h:f158 ((k:Int)+1) with
 |none=>rw[h] at this;cases this
 |some r=>rw[h] at this;exact⟨r.1,by dsimp only at this;rw[←this]⟩
theorem xP{o:Int}(h1:1≤o)(h2:o≤57):∃l,prs o=some l∧l.length<100∧∀s∈l,(∃c,eK s 0=some c)∧∃c,eK s 1=some c:=by
 obtain⟨k,rfl⟩:∃k:Nat,o=(k:Int)+1:=⟨(o - 1).toNat,oM⟩
 have:=xO k oM
 cases h:prs ((k:Int)+1) with
 |none=>rw[h] at this;cases this
 |some l=>
  rw[h] at this
  rw[Bool.and_eq_true] at this
  refine⟨l,rfl,by simpa using this.1,λs hs=>?_⟩
  have:=List.all_eq_true.1 this.2 s hs
  rw[Bool.and_eq_true] at this
  exact⟨Option.isSome_iff_exists.1 this.1,Option.isSome_iff_exists.1 this.2⟩
def rng(w v:Int):Bool:= !(decide (v<(f189 w).1)||decide (v>(f189 w).2))
def fl:List (Int×Int)→Int→Int→Int→Int→Int→Int→Bool
 |[],d,a,b,n,m,to=>(decide (d=0))&&((decide (a=0))&&((decide (b=0))&&((decide (n=0))&&((decide (m=0))&&((decide (to=0))&&true)))))
 |(c,w)::r,d,a,b,n,m,to=>
  bif decide (c=68) then rng w d&&fl r 0 a b n m to else
  bif decide (c=65) then rng w a&&fl r d 0 b n m to else
  bif decide (c=66) then rng w b&&fl r d a 0 n m to else
  bif decide (c=78) then rng w n&&fl r d a b 0 m to else
  bif decide (c=77) then rng w m&&fl r d a b n 0 to else rng w to&&fl r d a b n m 0
theorem f99_l1_eq(k1 k2 k3 k4 k5 k6:Int→Int→Int→Int→Int→Int→ByteArray→ByteArray→Int→Int→Int→Int→Option Bool)
  (h1:∀a b c d e f g h i j k l,k1 a b c d e f g h i j k l=some false)(h2:∀a b c d e f g h i j k l,k2 a b c d e f g h i j k l=some false)(h3:∀a b c d e f g h i j k l,k3 a b c d e f g h i j k l=some false)
  (h4:∀a b c d e f g h i j k l,k4 a b c d e f g h i j k l=some false)(h5:∀a b c d e f g h i j k l,k5 a b c d e f g h i j k l=some false)(h6:∀a b c d e f g h i j k l,k6 a b c d e f g h i j k l=some false)
  (k7:Int→Int→Int→Int→Int→Int→ByteArray→ByteArray→Option Bool)(h7:∀d a b n m to x y,k7 d a b n m to x y=some (fl [] d a b n m to))(r:gD×Bool)(L:List ByteArray)(hL:∀s∈L,(∃c,eK s 0=some c)∧∃c,eK s 1=some c)(hl:L.length<9223372036854775808):
  ∀(n i:Nat)(z d a b vn m to:Int),z=(i:Int)→i≤L.length→L.length<n+i→f99_l1 k1 k2 k3 k4 k5 k6 k7 r L n z d a b vn m to=some (fl ((L.drop i).map ch) d a b vn m to)
 |0,i,z,_,_,_,_,_,_,_,_,h=>oM
 |n+1,i,z,d,a,b,vn,m,to,hz,hi,h=>by
  subst hz
  rw[f99_l1]
  by_cases hh:i<L.length
  ·obtain⟨⟨c,hc⟩,w,hw⟩:=hL _ (List.getElem_mem hh)
   have ih:=λd a b vn m to=>f99_l1_eq k1 k2 k3 k4 k5 k6 h1 h2 h3 h4 h5 h6 k7 h7 r L hL hl n (i+1) _ d a b vn m to (by push_cast;rfl) oM oM
   have he:ch L[i]=(c,w):=by unfold ch;rw[hc,hw];rfl
   rw[aG hh,List.map_cons,he,fl,dcT (by omega:(i:Int)<(L.length:Int)),cdT,ax hh,bnS,hc,bnS,w64 oM oM]
   simp only[aq,hw,bnS,h1,h2,h3,h4,h5,h6,ih]
   unfold rng
   cases decide (c=68)
   ·cases decide (c=65)
    ·cases decide (c=66)
     ·cases decide (c=78)
      ·cases decide (c=77)
       ·cases (decide (to<(f189 w).1)||decide (to>(f189 w).2))<;>rfl
       ·cases (decide (m<(f189 w).1)||decide (m>(f189 w).2))<;>rfl
      ·cases (decide (vn<(f189 w).1)||decide (vn>(f189 w).2))<;>rfl
     ·cases (decide (b<(f189 w).1)||decide (b>(f189 w).2))<;>rfl
    ·cases (decide (a<(f189 w).1)||decide (a>(f189 w).2))<;>rfl
   ·cases (decide (d<(f189 w).1)||decide (d>(f189 w).2))<;>rfl
  ·rw[dcF (by omega:¬(i:Int)<(L.length:Int)),cdF,List.drop_eq_nil_of_le oM,h7]
   rfl
def ip(x:aE):Bool:= !((!(decide (1≤x.op)&&decide (x.op≤57)))||(decide (x.op=27)&&decide (x.n>x.m)))&&(!((decide (x.op=37)&&decide ((IntKind.u8.wrap x.n)=6))&&(!decide (x.m=0)))&&fl (lu x.op) x.d x.a x.b x.n x.m x.to)
theorem f99_eq(x:aE)(ho:0≤x.op∧x.op≤255):f99 x=some (ip x):=by
 unfold f99 ip
 by_cases h:1≤x.op∧x.op≤57
 ·obtain⟨r,hr⟩:=f158_eq h.1 h.2
  obtain⟨l,hl,hlen,hg⟩:=xP h.1 h.2
  have hf:f186 r.fields=some l:=by
   unfold prs at hl
   rw[hr,bnS] at hl
   exact hl
  rw[hr,bnS,dcT h.1,dcT h.2]
  dsimp only
  rw[Bool.not_true,Bool.false_or,Bool.and_true,Bool.not_true,Bool.false_or]
  cases decide (x.op=27)&&decide (x.n>x.m)
  ·rw[cdF]
   cases (decide (x.op=37)&&decide ((IntKind.u8.wrap x.n)=6))&&(!decide (x.m=0))
   ·rw[cdF]
    simp only[aq]
    rw[bnS,hf,bnS]
    refine(f99_l1_eq _ _ _ _ _ _ (λ_ _ _ _ _ _ _ _ _ _ _ _=>rfl) (λ_ _ _ _ _ _ _ _ _ _ _ _=>rfl) (λ_ _ _ _ _ _ _ _ _ _ _ _=>rfl) (λ_ _ _ _ _ _ _ _ _ _ _ _=>rfl) (λ_ _ _ _ _ _ _ _ _ _ _ _=>rfl) (λ_ _ _ _ _ _ _ _ _ _ _ _=>rfl) _ (by intro d a b n m to _ _;rfl) _ l hg oM _ 0 0 _ _ _ _ _ _ rfl (Nat.zero_le _) oM).trans ?_
    rw[List.drop_zero]
    unfold lu
    rw[hl]
    rfl
   ·rfl
  ·rfl
 ·have e:f158 x.op=some ((gD.mk ByteArray.empty ByteArray.empty),false):=by
   unfold f158
   have:(decide (x.op<1)||decide ((IntKind.i64.wrap x.op)>57))=true:=by
    rw[w64 oM oM,Bool.or_eq_true]
    simp only[decide_eq_true_eq]
    omega
   rw[this];rfl
  have e2:(decide (1≤x.op)&&decide (x.op≤57))=false:=by
   rw[Bool.and_eq_false_iff]
   simp only[decide_eq_false_iff_not]
   omega
  rw[e,e2];rfl
def lF(t:af)(task n:Int):Int×Bool:=match idx t.tasks task with
 |some x=>(match idx x.entries n with
  |some e=>((IntKind.i64.wrap ((IntKind.i64.wrap ((List.length e.ins:Int)+(List.length e.outs:Int)))+1)),true)
  |none=>(0,false))
 |none=>(0,false)
theorem f101_eq(t:af)(a n:Int):f101 ⟨t⟩ a n=some (lF t a n):=by
 unfold f101 lF
 dsimp only
 by_cases h:0≤a∧a<t.tasks.length
 ·obtain⟨y,hy,_⟩:=aX h
  rw[hy,dcF (show¬a<0 by omega),dcF (show¬a≥(t.tasks.length:Int) by omega)]
  dsimp only[bnS]
  by_cases h2:0≤n∧n<y.entries.length
  ·obtain⟨e,he,_⟩:=aX h2
   rw[he,dcF (show¬n<0 by omega),dcF (show¬n≥(y.entries.length:Int) by omega)]
   rfl
  ·rw[ct h2]
   by_cases h3:n<0
   ·rw[dcT h3];rfl
   ·rw[dcT (show n≥(y.entries.length:Int) by omega),dcF h3];rfl
 ·rw[ct h]
  have:(decide (a<0)||decide (a≥(t.tasks.length:Int)))=true:=by
   rw[Bool.or_eq_true]
   simp only[decide_eq_true_eq]
   omega
  rw[this];rfl
def sf(t:af)(p n:Int):Bool:=match idx t.prots p with
 |some x=>decide (0≤n)&&decide (n<(x.barriers.length:Int))
 |none=>false
theorem f102_eq(t:af)(p n:Int):f102 ⟨t⟩ p n=some (sf t p n):=by
 unfold f102 sf
 dsimp only
 by_cases h:0≤p∧p<t.prots.length
 ·obtain⟨y,hy,_⟩:=aX h
  rw[hy,dcT (show p≥0 by omega),dcT h.2]
  by_cases h3:0≤n
  ·rw[dcT (show n≥0 from h3)];rfl
  ·rw[dcF (show¬n≥0 from h3)];rfl
 ·rw[ct h]
  have:(decide (p≥0)&&decide (p<(t.prots.length:Int)))=false:=by
   rw[Bool.and_eq_false_iff]
   simp only[decide_eq_false_iff_not]
   omega
  rw[this];rfl
def jtOk(t:af)(x:aE):Bool:=decide ((IntKind.i64.wrap (x.to+x.m))≤(t.insns.length:Int))&&(cB t.insns x.to (IntKind.i64.wrap (x.to+x.m))).all (λy=>decide (y.op=29))
def iq(t:af)(x:aE):Bool:=ip x&&
 bif decide (x.op=3)||decide (x.op=4) then spot t.objs x.n x.m 1 else
 bif decide (x.op=5)||decide (x.op=6) then spot t.objs x.n x.m x.b else
 bif decide (x.op=29)||(decide (x.op=30)||decide (x.op=31)) then at1 t x.to else
 bif decide (x.op=32) then jtOk t x else
 bif decide (x.op=33) then decide (x.n≤t.excs) else
 bif decide (x.op=44)||(decide (x.op=45)||(decide (x.op=46)||decide (x.op=56))) then decide (x.n<(t.lists.length:Int)) else
 bif decide (x.op=50) then decide (x.n<(t.selects.length:Int)) else
 bif decide (x.op=49) then(lF t x.a x.b).2&&spot t.objs x.n 0 (lF t x.a x.b).1 else
 bif decide (x.op=52) then(lF t x.a x.b).2&&decide (x.to<(t.insns.length:Int)) else
 bif decide (x.op=53)||decide (x.op=55) then decide (x.n<(t.prots.length:Int)) else
 bif decide (x.op=54) then sf t x.n x.m else
 bif decide (x.op=43) then decide (x.m<0)||sf t x.m x.n else true
theorem yq:lu 32=[(65,114),(78,118),(77,108),(84,115)]:=by decide+kernel
theorem pS{x:aE}(h:ip x=true)(ho:x.op=32):0≤x.to∧x.to≤65535∧1≤x.m∧x.m≤65536:=by
 unfold ip at h
 rw[ho,yq] at h
 simp only[Bool.and_eq_true] at h
 have:=h.2.2
 simp only[fl,rng,f189] at this
 simp at this
 omega
theorem wt(L:List aE)(hl:L.length<9223372036854775808):f35 L (λz0=>some (f100 z0))=some (!(L.all λy=>decide (y.op=29))):=by
 rw[f35_eq L _ f100 hl λ_ _=>rfl]
 congr 1
 induction L with
 |nil=>rfl
 |cons x L ih=>rw[List.any_cons,List.all_cons,ih (by simp at hl;omega),Bool.not_and];rfl
theorem f37_eq(t:af)(x:aE)(ho:0≤x.op∧x.op≤255)(hl:t.insns.length≤65536):f37 ⟨t⟩ x=some (iq t x):=by
 unfold f37 iq
 rw[f99_eq x ho,bnS]
 cases hm:ip x
 ·rfl
 ·simp only[aq,f89_eq,f47_eq,f101_eq,f102_eq,bnS]
  rw[Bool.not_true,cdF,Bool.true_and]
  cases decide (x.op=3)
  ·cases decide (x.op=4)
   ·cases decide (x.op=5)
    ·cases decide (x.op=6)
     ·cases decide (x.op=29)
      ·cases decide (x.op=30)
       ·cases decide (x.op=31)
        ·cases h32:decide (x.op=32)
         ·cases decide (x.op=33)
          ·cases decide (x.op=44)
           ·cases decide (x.op=45)
            ·cases decide (x.op=46)
             ·cases decide (x.op=56)
              ·cases decide (x.op=50)
               ·cases decide (x.op=49)
                ·cases decide (x.op=52)
                 ·cases decide (x.op=53)
                  ·cases decide (x.op=55)
                   ·cases decide (x.op=54)
                    ·cases decide (x.op=43)
                     ·rfl
                     ·cases decide (x.m<0)<;>rfl
                    ·rfl
                   ·rfl
                  ·rfl
                 ·rfl
                ·cases (lF t x.a x.b).2<;>rfl
               ·rfl
              ·rfl
             ·rfl
            ·rfl
           ·rfl
          ·rfl
         ·obtain⟨a1,a2,a3,a4⟩:=pS hm (of_decide_eq_true h32)
          unfold jtOk
          dsimp only[cdT,cdF,Bool.or_false]
          by_cases h4:(IntKind.i64.wrap (x.to+x.m))≤(t.insns.length:Int)
          ·rw[dcT h4,cdT]
           rw[w64 oM oM] at h4
           rw[w64 oM oM,oK _ (by simp[fB];omega),wt _ (by simp[cB];omega),bnS,Bool.not_not]
           rfl
          ·rw[dcF h4];rfl
        ·rfl
       ·rfl
      ·rfl
     ·rfl
    ·rfl
   ·rfl
  ·rfl
end Go.Proofs.YtejcfgjpdocaoaaGreatDoor
set_option maxRecDepth 10000
namespace Go.Proofs.YtejcfgjpdocaoaaGreatDoor
open Go Go.Sk
structure Sz(t:af):Prop where
 ops:∀x∈t.insns,0≤x.op∧x.op≤255
 inits:t.inits.length<9223372036854775808
 sets:∀o∈t.objs,o.set_.length<9223372036854775808
 lists:∀l∈t.lists,l.length<9223372036854775808
 prots:t.prots.length<9223372036854775808
 checks:t.checks.length<9223372036854775808
theorem f10_l1_eq(t:af)(k:Int→Option Bool)(a b:Option Bool)(ha:∀i:Int,0≤i→k i=a)(ho:∀x∈t.insns,0≤x.op∧x.op≤255)(hl:t.insns.length≤65536):∀(n i:Nat)(z:Int),z=(i:Int)→i≤t.insns.length→t.insns.length<n+i→
  f10_l1 t k (λ_=>b) n z=bif (t.insns.drop i).all (iq t) then b else a
 |0,i,z,_,_,h=>oM
 |n+1,i,z,hz,hi,h=>by
  subst hz
  rw[f10_l1]
  by_cases hh:i<t.insns.length
  ·rw[aG hh,List.all_cons,dcT (by omega:(i:Int)<(t.insns.length:Int)),cdT,ax hh,bnS,aq,f37_eq t _ (ho _ (List.getElem_mem hh)) hl,bnS]
   cases iq t t.insns[i]
   ·exact ha _ oM
   ·dsimp only
    rw[Bool.not_true,cdF,w64 oM oM,f10_l1_eq t k a b ha ho hl n (i+1) _ (by push_cast;rfl) oM oM,Bool.true_and]
  ·rw[dcF (by omega:¬(i:Int)<(t.insns.length:Int)),cdF,List.drop_eq_nil_of_le oM]
   rfl
def nk(x:aE):Bool:=decide (x.op=29)||(decide (x.op=33)||(decide (x.op=34)||decide (x.op=57)))
def qN(t:af):Bool:=match idx t.insns ((t.insns.length:Int) - 1) with
 |some x=>nk x
 |none=>false
def MayB(t:af):Bool:= !(decide ((t.insns.length:Int)<1)||decide ((t.insns.length:Int)>65536))&&(qN t&&(gp t&&(dq t&&(gt t&&(gi t&&(j0 t&&(iV t&&(oE t&&(f' t (-1) t.checks&&t.insns.all (iq t))))))))))
theorem f10_eq(t:af)(h:Sz t):f10 t=some (MayB t):=by
 unfold f10 MayB
 cases h1:decide ((t.insns.length:Int)<1)||decide ((t.insns.length:Int)>65536)
 ·have hol:(1:Int)≤t.insns.length∧(t.insns.length:Int)≤65536:=by
   simp only[Bool.or_eq_false_iff,decide_eq_false_iff_not] at h1
   omega
  obtain⟨x,hx,_⟩:=aX (L:=t.insns) (i:=(t.insns.length:Int) - 1) oM
  unfold qN
  rw[cdF,w64 oM oM,hx,bnS]
  simp only[aq]
  rw[f27_eq t h.inits h.sets,f28_eq,f29_eq t h.lists,f30_eq t h.prots,f31_eq,f32_eq,f33_eq,f34_eq t h.checks]
  rw[f10_l1_eq t _ (some false) _ (λi h0=>by rw[dcT (show i≥0 from h0)];rfl) h.ops oM _ 0 0 rfl (Nat.zero_le _) oM,List.drop_zero]
  unfold nk
  generalize gp t=b1,dq t=b2,gt t=b3,gi t=b4,j0 t=b5,iV t=b6,oE t=b7,f' t (-1) t.checks=b8,t.insns.all (iq t)=b9
  have key:∀b:Bool,(bif b then(some b1).bind λr69=>bif !r69 then some false else(some b2).bind λr70=>bif !r70 then some false else(some b3).bind λr71=>bif !r71 then some false else(some b4).bind λr72=>bif !r72 then some false else(some b5).bind λr73=>bif !r73 then some false else(some b6).bind λr74=>bif !r74 then some false else(some b7).bind λr75=>bif !r75 then some false else(some b8).bind λr76=>bif !r76 then some false else bif b9 then some (!decide ((-1:Int)≥0)) else some false else some false)=some (b&&(b1&&(b2&&(b3&&(b4&&(b5&&(b6&&(b7&&(b8&&b9))))))))):=by
   intro b
   cases b
   ·rfl
   ·cases b1
    ·rfl
    ·cases b2
     ·rfl
     ·cases b3
      ·rfl
      ·cases b4
       ·rfl
       ·cases b5
        ·rfl
        ·cases b6
         ·rfl
         ·cases b7
          ·rfl
          ·cases b8
           ·rfl
           ·cases b9<;>rfl
  cases decide (x.op=29)
  ·cases decide (x.op=33)
   ·cases decide (x.op=34)
    ·exact key _
    ·exact key true
   ·exact key true
  ·exact key true
 ·rfl
end Go.Proofs.YtejcfgjpdocaoaaGreatDoor
set_option maxRecDepth 10000
namespace Go.Proofs.YtejcfgjpdocaoaaGreatDoor
open Go Go.Sk
theorem wN{α:Type}{b:Nat}{L M:List α}(hb:b≤64)(h:L.length+M.length≤2000000000000):cq b L M=true:=by
 unfold cq
 have:maxLen=9223372036854775807:=by decide
 rw[this,dcT oM,Bool.true_and]
 refine dcT ?_
 have:(L.length+M.length)*b≤2000000000000*64:=Nat.mul_le_mul h hb
 omega
structure VT(t:af):Prop where
 sz:Sz t
 n:1≤t.insns.length∧t.insns.length≤65536
 objs:t.objs.length≤4096
 excs:4≤t.excs∧t.excs≤64
 obj:∀o∈t.objs,dE t.objs o=true
 inits:dc t.objs [] t.inits=true
 hdls:t.handlers.length≤4096
 fits:∀x∈t.insns,iq t x=true
 last:qN t=true
 hok:eB t [] t.handlers=true
theorem wW{t:af}(hs:Sz t)(h:MayB t=true):VT t:=by
 unfold MayB gp iV at h
 simp only[Bool.and_eq_true,Bool.not_eq_true',Bool.or_eq_false_iff,decide_eq_false_iff_not,List.all_eq_true] at h
 exact⟨hs,oM,oM,oM,h.2.2.1.2.1,h.2.2.1.2.2.1,oM,h.2.2.2.2.2.2.2.2.2.2,h.2.1,h.2.2.2.2.2.2.2.1.2⟩
theorem mv{os:List Obj}:∀(L:List Int)(last:Int),fW os last L=true→-1≤last→last<os.length→(L.length:Int)+last+1≤os.length
 |[],last,_,h1,h2=>by simp;omega
 |x::r,last,h,h1,h2=>by
  simp only[fW,Bool.and_eq_true,decide_eq_true_eq] at h
  have hx:x<os.length:=by
   have:=h.1.2
   unfold aim at this
   cases hi:idx os x with
   |none=>rw[hi] at this;cases this
   |some y=>exact(fp hi).2
  have:=mv r x h.2 oM hx
  simp;omega
theorem vo{os:List Obj}{o:Obj}(h:dE os o=true)(hn:0<os.length):1≤o.size∧o.size≤16384∧o.lo≤o.hi∧(o.set_.length:Int)≤os.length:=by
 unfold dE at h
 simp only[Bool.and_eq_true,Bool.not_eq_true',Bool.or_eq_false_iff,decide_eq_false_iff_not] at h
 refine⟨oM,oM,oM,?_⟩
 cases hp:o.ptr
 ·have h2:=h.2
  rw[hp] at h2
  simp only[Bool.not_false,cdT,decide_eq_true_eq] at h2
  omega
 ·have h2:=h.2
  rw[hp] at h2
  simp only[Bool.not_true,cdF,Bool.and_eq_true] at h2
  have:=mv _ _ h2.1 oM oM
  omega
theorem VT.o{t:af}(h:VT t){o:Obj}(ho:o∈t.objs):1≤o.size∧o.size≤16384∧o.lo≤o.hi∧(o.set_.length:Int)≤4096:=by
 have h2:=h.objs
 have:=vo (h.obj o ho) (List.length_pos_of_mem ho)
 omega
end Go.Proofs.YtejcfgjpdocaoaaGreatDoor
set_option maxRecDepth 10000
namespace Go.Proofs.YtejcfgjpdocaoaaGreatDoor
open Go Go.Sk
theorem f46_l1_eq(o:Obj)(v:Int)(r:Option Bool)(hl:o.set_.length<9223372036854775808):∀(n i:Nat)(z:Int),z=(i:Int)→i≤o.set_.length→o.set_.length<n+i→
  f46_l1 o v (λ_=>r) n z=bif (o.set_.drop i).any (λx=>f113 x v) then some true else r
 |0,i,z,_,_,h=>oM
 |n+1,i,z,hz,hi,h=>by
  subst hz
  rw[f46_l1]
  by_cases hh:i<o.set_.length
  ·rw[aG hh,List.any_cons,dcT (by omega:(i:Int)<(o.set_.length:Int)),cdT,ax hh,bnS,w64 (x:=(i:Int)+1) oM oM,f46_l1_eq o v r hl n (i+1) _ (by push_cast;rfl) oM oM]
   have e:f113 o.set_[i] v=decide (v=IntKind.i64.wrap (o.set_[i]+1)):=by
    unfold f113
    by_cases hv:v=IntKind.i64.wrap (o.set_[i]+1)
    ·rw[dcT hv,dcT hv.symm]
    ·rw[dcF hv,dcF λh=>hv h.symm]
   rw[e]
   cases decide (v=IntKind.i64.wrap (o.set_[i]+1))<;>rfl
  ·rw[dcF (by omega:¬(i:Int)<(o.set_.length:Int)),cdF,List.drop_eq_nil_of_le oM]
   rfl
theorem f46_eq(o:Obj)(v:Int)(hl:o.set_.length<9223372036854775808):f46 o v=some (fits o v):=by
 unfold f46 fits
 cases o.ptr
 ·rfl
 ·rw[Bool.not_true,cdF,cdT,aq,f46_l1_eq o v _ hl _ 0 0 rfl (Nat.zero_le _) oM,List.drop_zero]
  cases o.set_.any (λn=>f113 n v)<;>cases decide (v=0)<;>rfl
def pK(os:List Obj)(L:List Int):Nat→List Int→Bool
 |_,[]=>true
 |i,x::r=>(decide (0≤x)&&aim os x&&(bif Nat.beq i 0 then true else decide ((L[i - 1]?).getD 0<x)))&&pK os L (i+1) r
theorem uP{os:List Obj}{x:Int}:aim os x=true→0≤x∧x<os.length:=λh=>by
 unfold aim at h
 cases hx:idx os x with
 |none=>rw[hx] at h;cases h
 |some y=>exact fp hx
theorem vg(os:List Obj)(L:List Int):∀(i:Nat),i≤L.length→pK os L i (L.drop i)=fW os (if i=0 then -1 else(L[i - 1]?).getD 0) (L.drop i)∨∃j,j<i∧(L[j]?).getD 0<0:=by
 intro i hi
 generalize hk:L.length - i=k
 induction k generalizing i with
 |zero=>
  left
  rw[List.drop_eq_nil_of_le oM];rfl
 |succ k ih=>
  have hh:i<L.length:=oM
  rw[aG hh]
  have hg:(L[i]?).getD 0=L[i]:=by rw[geG hh];rfl
  rcases ih (i+1) oM oM with h|⟨j,hj,hn⟩
  ·left
   rw[if_neg oM,Nat.add_sub_cancel,hg] at h
   unfold pK fW
   rw[h]
   by_cases h0:i=0
   ·subst h0
    rw[if_pos rfl]
    show((decide ((0:Int)≤L[0])&&aim os L[0]&&true)&&_)=_
    by_cases hx:(0:Int)≤L[0]
    ·rw[dcT hx,dcT (show(-1:Int)<L[0] by omega),Bool.and_true]
    ·rw[dcF hx,dcF (show¬(-1:Int)<L[0] by omega)];rfl
   ·rw[if_neg h0]
    have hb:Nat.beq i 0=false:=by
     cases i with
     |zero=>exact absurd rfl h0
     |succ i=>rfl
    rw[hb,cdF]
    by_cases ha:aim os L[i]=true
    ·have:=uP ha
     rw[ha,dcT this.1]
     cases decide ((L[i - 1]?).getD 0<L[i])<;>rfl
    ·have ha:aim os L[i]=false:=by simpa using ha
     rw[ha];simp
  ·by_cases hji:j=i
   ·subst hji
    left
    rw[hg] at hn
    unfold pK fW
    rw[dcF (show¬0≤L[j] by omega)]
    have ha:aim os L[j]=false:=by
     cases ha:aim os L[j]
     ·rfl
     ·have:=uP ha;omega
    rw[ha];simp
   ·exact .inr ⟨j,oM,hn⟩
theorem f103_l1_eq(t:af)(o:Obj)(r:Option Bool)(hl:o.set_.length<9223372036854775808):∀(n i:Nat)(z:Int),z=(i:Int)→i≤o.set_.length→o.set_.length<n+i→
  f103_l1 t o (λ_=>r) n z=bif pK t.objs o.set_ i (o.set_.drop i) then r else some false
 |0,i,z,_,_,h=>oM
 |n+1,i,z,hz,hi,h=>by
  subst hz
  rw[f103_l1]
  by_cases hh:i<o.set_.length
  ·rw[aG hh,pK,dcT (by omega:(i:Int)<(o.set_.length:Int)),cdT,ax hh,bnS,w64 (x:=(i:Int)+1) oM oM,f103_l1_eq t o r hl n (i+1) _ (by push_cast;rfl) oM oM]
   have hprev:i≠0→idx o.set_ (IntKind.i64.wrap ((i:Int) - 1))=some ((o.set_[i - 1]?).getD 0):=λh0=>by
    rw[w64 oM oM,show(i:Int) - 1=((i - 1:Nat):Int) by omega,ax oM,geG oM];rfl
   generalize hx:o.set_[i]=x
   unfold aim
   by_cases h1:0≤x∧x<t.objs.length
   ·obtain⟨y,hy,_⟩:=aX h1
    rw[dcF (show¬x<0 by omega),dcF (show¬x≥(t.objs.length:Int) by omega),dcT h1.1,hy]
    simp only[Bool.or_self,cdF,bnS]
    by_cases h2:y.size=1
    ·rw[dcT h2]
     cases h3:y.ptr
     ·simp only[Bool.not_true,Bool.not_false,cdF,bnS,Bool.and_self,Bool.true_and]
      by_cases h0:i=0
      ·subst h0;rfl
      ·rw[dcT (by omega:(i:Int)>0),cdT,hprev h0]
       have hb:Nat.beq i 0=false:=by
        cases i with
        |zero=>exact absurd rfl h0
        |succ i=>rfl
       rw[hb,cdF]
       simp only[bnS]
       by_cases h4:(o.set_[i - 1]?).getD 0<x
       ·rw[dcT h4,dcF oM];rfl
       ·rw[dcF h4,dcT oM];rfl
     ·rfl
    ·rw[dcF h2];rfl
   ·rw[ct h1]
    have:(decide (x<0)||decide (x≥(t.objs.length:Int)))=true:=by
     rw[Bool.or_eq_true];simp only[decide_eq_true_eq];omega
    rw[this];simp
  ·rw[dcF (by omega:¬(i:Int)<(o.set_.length:Int)),cdF,List.drop_eq_nil_of_le oM]
   rfl
theorem f103_eq(t:af)(o:Obj)(hl:o.set_.length<9223372036854775808):f103 t o=some (dE t.objs o):=by
 unfold f103 dE
 rw[aq,f103_l1_eq t o _ hl _ 0 0 rfl (Nat.zero_le _) oM,List.drop_zero]
 have hs:pK t.objs o.set_ 0 o.set_=fW t.objs (-1) o.set_:=by
  rcases vg t.objs o.set_ 0 (Nat.zero_le _) with h|⟨j,hj,_⟩
  ·simpa using h
  ·omega
 rw[hs]
 cases (decide (o.size<1)||decide (o.size>16384))||decide (o.lo>o.hi)
 ·cases o.ptr
  ·by_cases h0:(o.set_.length:Int)=0
   ·rw[dcT h0,dcF (show¬(o.set_.length:Int)>0 by omega)]
    have:o.set_=[]:=List.length_eq_zero_iff.1 oM
    rw[this];rfl
   ·rw[dcF h0,dcT (show(o.set_.length:Int)>0 by omega)];rfl
  ·cases decide (o.lo=0)<;>cases decide (o.hi=0)<;>cases fW t.objs (-1) o.set_<;>cases decide ((o.set_.length:Int)>0)<;>rfl
 ·rfl
theorem f104_eq(t:af)(o f m:Int)(hm:0≤m):f104 t o f m=some (spot t.objs o f m):=by
 unfold f104 spot
 by_cases h:0≤o∧o<t.objs.length
 ·obtain⟨x,hx,_⟩:=aX h
  rw[hx,dcT (show o≥0 from h.1),dcT h.2,dcT (show m≥0 from hm)]
  by_cases hf:0≤f
  ·rw[dcT (show f≥0 from hf)];rfl
  ·rw[dcF (show¬f≥0 from hf)];rfl
 ·rw[ct h]
  have:(decide (o≥0)&&decide (o<(t.objs.length:Int)))=false:=by
   rw[Bool.and_eq_false_iff]
   simp only[decide_eq_false_iff_not]
   omega
  rw[this];rfl
theorem f38_l1_eq(t:af)(k:Int→Option Bool)(hl:t.objs.length<9223372036854775808)(hs:∀o∈t.objs,o.set_.length<9223372036854775808):∀(n i:Nat)(z a:Int),z=(i:Int)→i≤t.objs.length→t.objs.length<n+i→
  f38_l1 t k n a z=bif (t.objs.drop i).all (dE t.objs) then k (m6 a (t.objs.drop i)) else some false
 |0,i,z,a,_,_,h=>oM
 |n+1,i,z,a,hz,hi,h=>by
  subst hz
  rw[f38_l1]
  by_cases hh:i<t.objs.length
  ·rw[aG hh,List.all_cons,dcT (by omega:(i:Int)<(t.objs.length:Int)),cdT,ax hh,bnS,f103_eq t _ (hs _ (List.getElem_mem _)),bnS,w64 (x:=(i:Int)+1) oM oM,bnS]
   cases hc:dE t.objs t.objs[i]
   ·rfl
   ·rw[Bool.not_true,cdF,Bool.true_and,f38_l1_eq t k hl hs n (i+1) _ _ (by push_cast;rfl) oM oM]
    rfl
  ·rw[dcF (by omega:¬(i:Int)<(t.objs.length:Int)),cdF,List.drop_eq_nil_of_le oM]
   rfl
def neI(x y:dM):Bool:= !(decide (y.o=x.o)&&decide (y.slot=x.slot))
def fK(os:List Obj):List dM→List dM→Bool
 |_,[]=>true
 |P,x::r=>(d4 os x&&P.all (neI x))&&fK os (P++ [x]) r
theorem f38_l3_eq(t:af)(j:Nat)(x:dM)(r:Option Bool)(hj:j≤t.inits.length)(hl:t.inits.length<9223372036854775808):∀(n i:Nat)(z:Int),z=(i:Int)→i≤j→j<n+i→
  f38_l3 t (j:Int) (λ_ _ _=>r) x n z=bif ((t.inits.take j).drop i).all (neI x) then r else some false
 |0,i,z,_,_,h=>oM
 |n+1,i,z,hz,hi,h=>by
  subst hz
  rw[f38_l3]
  have hL:(t.inits.take j).length=j:=by rw[List.length_take];omega
  by_cases hh:i<j
  ·have e:(t.inits.take j)[i]'oM=t.inits[i]'oM:=List.getElem_take
   rw[aG (L:=t.inits.take j) (i:=i) oM,List.all_cons,e,dcT (by omega:(i:Int)<(j:Int)),cdT,ax (show i<t.inits.length by omega),bnS,w64 oM oM,f38_l3_eq t j x r hj hl n (i+1) _ (by push_cast;rfl) oM oM]
   generalize t.inits[i]'oM=y
   unfold neI
   rw[bnS]
   cases decide (y.o=x.o)<;>cases decide (y.slot=x.slot)<;>rfl
  ·rw[dcF (by omega:¬(i:Int)<(j:Int)),cdF,List.drop_eq_nil_of_le oM]
   rfl
theorem f38_l2_eq(t:af)(r:Option Bool)(hl:t.inits.length<9223372036854775808)(hs:∀o∈t.objs,o.set_.length<9223372036854775808):∀(n i:Nat)(z:Int),z=(i:Int)→i≤t.inits.length→t.inits.length<n+i→
  f38_l2 t (λ_=>r) n z=bif fK t.objs (t.inits.take i) (t.inits.drop i) then r else some false
 |0,i,z,_,_,h=>oM
 |n+1,i,z,hz,hi,h=>by
  subst hz
  rw[f38_l2]
  by_cases hh:i<t.inits.length
  ·rw[aG hh,fK,←List.take_succ_eq_append_getElem hh,dcT (by omega:(i:Int)<(t.inits.length:Int)),cdT,aq,ax hh,bnS,f104_eq _ _ _ _ oM,bnS,w64 oM oM,f38_l2_eq t r hl hs n (i+1) _ (by push_cast;rfl) oM oM]
   rw[f38_l3_eq t i _ _ oM hl _ 0 0 rfl (Nat.zero_le _) oM,List.drop_zero]
   generalize t.inits[i]=x
   unfold d4
   cases hsp:spot t.objs x.o x.slot 1
   ·rfl
   ·obtain⟨y,hy,_⟩:=iL hsp
    rw[hy]
    simp only[Bool.not_true,bnS,cdF,Bool.true_and]
    rw[f46_eq _ _ (hs _ (kz hy))]
    simp only[bnS]
    cases fits y x.v<;>cases (t.inits.take i).all (neI x)<;>rfl
  ·rw[dcF (by omega:¬(i:Int)<(t.inits.length:Int)),cdF,List.drop_eq_nil_of_le oM]
   rfl
theorem rY(P:List dM)(m:List ((Int×Int)×Bool))(x:dM):inM (P.foldl (λm x=>bw m (x.o,x.slot) true) m) (x.o,x.slot)=(inM m (x.o,x.slot)|| !(P.all (neI x))):=by
 induction P generalizing m with
 |nil=>simp
 |cons y P ih=>
  rw[List.foldl_cons,ih,nq,List.all_cons]
  have:decide ((y.o,y.slot)=(x.o,x.slot))= !(neI x y):=by
   unfold neI
   rw[Bool.not_not]
   by_cases h1:y.o=x.o
   ·by_cases h2:y.slot=x.slot
    ·simp[h1,h2]
    ·simp[h1,h2]
   ·simp[h1]
  rw[this]
  cases neI x y<;>cases inM m (x.o,x.slot)<;>simp
theorem jF(os:List Obj):∀(r P:List dM),fK os P r=dc os (P.foldl (λm x=>bw m (x.o,x.slot) true) []) r
 |[],P=>rfl
 |x::r,P=>by
  rw[fK,dc,jF os r (P++ [x]),List.foldl_append,rY]
  have e:inM ([]:List ((Int×Int)×Bool)) (x.o,x.slot)=false:=rfl
  rw[e,Bool.false_or,Bool.not_not]
  simp only[List.foldl_cons,List.foldl_nil]
  cases d4 os x<;>cases P.all (neI x)<;>rfl
end Go.Proofs.YtejcfgjpdocaoaaGreatDoor
set_option maxRecDepth 10000
namespace Go.Proofs.YtejcfgjpdocaoaaGreatDoor
open Go Go.Sk
theorem yL{α:Type}(xs:List α)(F:Nat→Int→Option Bool)(k:Option Bool)(p:α→Bool)(hl:xs.length<9223372036854775808)
  (h0:∀n (i:Nat)(h:i<xs.length),F (n+1) (i:Int)=bif p xs[i] then F n ((i+1:Nat):Int) else some false)
  (h1:∀n,F (n+1) (xs.length:Int)=k):∀(n i:Nat)(z:Int),z=(i:Int)→i≤xs.length→xs.length<n+i→F n z=bif (xs.drop i).all p then k else some false
 |0,i,z,_,_,h=>oM
 |n+1,i,z,hz,hi,h=>by
  subst hz
  by_cases hh:i<xs.length
  ·rw[aG hh,List.all_cons,h0 n i hh,yL xs F k p hl h0 h1 n (i+1) _ rfl oM oM]
   cases p xs[i]<;>rfl
  ·have e:i=xs.length:=oM
   subst e
   rw[h1,List.drop_eq_nil_of_le (Nat.le_refl _)];rfl
theorem hD{α:Type}(xs:List α)(F:Nat→Int→Option Bool)(k:Option Bool)(p:α→Bool)(n:Nat)(hn:n=9223372036854775808)(hl:xs.length<9223372036854775808)
  (h0:∀n (i:Nat)(h:i<xs.length),F (n+1) (i:Int)=bif p xs[i] then F n ((i+1:Nat):Int) else some false)
  (h1:∀n,F (n+1) (xs.length:Int)=k):F n 0=bif xs.all p then k else some false:=by
 rw[yL xs F k p hl h0 h1 n 0 0 rfl (Nat.zero_le _) oM,List.drop_zero]
theorem gQ{i n:Nat}(h:i<n):decide ((i:Int)<(n:Int))=true:=dcT oM
theorem fJ{n:Nat}:decide ((n:Int)<(n:Int))=false:=dcF oM
theorem w1{i n:Nat}(h:i<n)(hl:n<9223372036854775808):IntKind.i64.wrap ((i:Int)+1)=((i+1:Nat):Int):=by rw[w64 oM oM];push_cast;rfl
theorem f105_eq(t:af)(l:List Int):f105 t l=some (dw t.objs l):=by
 unfold f105 dw
 by_cases h:(l.length:Int)≤8
 ·rw[dcT h,dcF (by omega:¬(l.length:Int)>8),cdF,aq,
   hD l (f105_l1 t l λ_=>some true) (some true) (pN t.objs) _ rfl oM (λn i hi=>by
    rw[f105_l1,gQ hi,cdT,ax hi,bnS,w1 hi oM]
    generalize l[i]=x
    unfold pN
    by_cases hx:0≤x∧x<t.objs.length
    ·obtain⟨y,hy,_⟩:=aX hx
     rw[hy,dcF (show¬x<0 by omega)]
     simp only[cdF,bnS]
     rw[dcF (show¬x≥(t.objs.length:Int) by omega),cdF,hy,bnS]
     cases decide (y.size=1)<;>rfl
    ·rw[ct hx]
     by_cases h1:x<0
     ·rw[dcT h1];rfl
     ·rw[dcF h1]
      simp only[cdF,bnS]
      rw[dcT (show x≥(t.objs.length:Int) by omega)];rfl) (λn=>by rw[f105_l1,fJ,cdF])]
  cases l.all (pN t.objs)<;>rfl
 ·rw[dcF h,dcT (by omega:(l.length:Int)>8)];rfl
theorem f39_eq(t:af):f39 t=some (dq t):=by
 unfold f39 dq
 cases h1:(decide ((t.tasks.length:Int)<1)||decide ((t.tasks.length:Int)>32))
 ·have hl:(t.tasks.length:Int)≤32:=by
   simp only[Bool.or_eq_false_iff,decide_eq_false_iff_not] at h1
   omega
  rw[cdF,aq,hD t.tasks (f39_l1 t λ_=>some true) (some true) (eA t) _ rfl oM (λn i hi=>by
   rw[f39_l1,gQ hi,cdT,aq,ax hi,bnS,w1 hi oM]
   generalize t.tasks[i]=x
   unfold eA
   have hat:f51 t x.at_=at1 t x.at_:=rfl
   rw[hat]
   cases hc:(((((decide (x.prio<0)||decide (x.prio>31))||(!(at1 t x.at_)))||decide (x.deadline<0))||decide (x.deadline>2147483647))||decide ((x.entries.length:Int)>8))
   ·have he:(x.entries.length:Int)≤8:=by
     simp only[Bool.or_eq_false_iff,decide_eq_false_iff_not] at hc
     omega
    rw[cdF,hD x.entries (f39_l2 t (λ_ _ _ _=>f39_l1 t (λ_=>some true) n ((i+1:Nat):Int)) x) (f39_l1 t (λ_=>some true) n ((i+1:Nat):Int)) (dR t.objs) _ rfl oM (λm j hj=>by
     rw[f39_l2,gQ hj,cdT,ax hj,bnS,w1 hj oM,f105_eq,bnS,bnS,f105_eq]
     unfold dR
     cases dw t.objs x.entries[j].ins<;>cases dw t.objs x.entries[j].outs<;>rfl) (λm=>by rw[f39_l2,fJ,cdF])]
    cases x.entries.all (dR t.objs)<;>rfl
   ·rfl) (λn=>by rw[f39_l1,fJ,cdF])]
  cases t.tasks.all (eA t)<;>rfl
 ·rfl
theorem vl(a b:Int)(ha: -9223372036854775808≤a∧a≤9223372036854775807)(hb: -9223372036854775808≤b∧b≤9223372036854775807):
  decide ((IntKind.i64.wrap (BitVec.ofInt IntKind.i64.bits a|||BitVec.ofInt IntKind.i64.bits b).toNat)=0)=(decide (a=0)&&decide (b=0)):=by
 have hz:∀x:BitVec 64,IntKind.i64.wrap (x.toNat:Int)=0↔x=0#64:=λx=>by
  have:=x.isLt
  rw[IntKind.wrap_i64]
  constructor
  ·intro h
   apply BitVec.eq_of_toNat_eq
   show x.toNat=0
   omega
  ·intro h
   have:x.toNat=0:=by rw[h];rfl
   omega
 have hf:∀a:Int, -9223372036854775808≤a∧a≤9223372036854775807→(BitVec.ofInt 64 a=0#64↔a=0):=λa ha=>by
  constructor
  ·intro h
   have:=congrArg BitVec.toNat h
   rw[BitVec.toNat_ofInt] at this
   have e:(0#64).toNat=0:=rfl
   rw[e] at this
   omega
  ·intro h
   rw[h];rfl
 have e:(IntKind.i64.wrap (BitVec.ofInt IntKind.i64.bits a|||BitVec.ofInt IntKind.i64.bits b).toNat=0)↔(a=0∧b=0):=(hz _).trans (BitVec.or_eq_zero_iff.trans (and_congr (hf a ha) (hf b hb)))
 rw[decide_eq_decide.2 e,Bool.decide_and]
theorem wO(t:af)(o:Int)(a:cD)(h1: -9223372036854775808≤a.entry∧a.entry≤9223372036854775807)(h2: -9223372036854775808≤a.time∧a.time≤9223372036854775807):f107 t o a=some (fq t o a):=by
 unfold f107 fq
 rw[vl _ _ h1 h2,f104_eq t o a.guard 1 oM,f104_eq t o a.time 1 oM]
 have hat:f51 t a.at_=at1 t a.at_:=rfl
 have h8:decide (a.entry≤7)=decide (a.entry<8):=by
  by_cases h:a.entry≤7
  ·rw[dcT h,dcT oM]
  ·rw[dcF h,dcF oM]
 rw[hat,h8]
 simp only[aq,bnS]
 cases at1 t a.at_
 ·rfl
 ·cases decide (a.guard= -1)
  ·cases spot t.objs o a.guard 1
   ·rfl
   ·cases decide (a.kind=1)
    ·cases decide (a.kind=2)<;>cases decide (a.kind=3)<;>cases decide (a.kind=4)<;>cases decide (a.entry=0)<;>cases decide (a.time=0)<;>rfl
    ·rfl
  ·cases decide (a.kind=1)
   ·cases decide (a.kind=2)<;>cases decide (a.kind=3)<;>cases decide (a.kind=4)<;>cases decide (a.entry=0)<;>cases decide (a.time=0)<;>rfl
   ·rfl
theorem rO{os:List Obj}{o:Int}(hp:∀y,idx os o=some y→1≤y.size∧y.size≤65536):spot os o 0 1=(decide (0≤o)&&decide (o<(os.length:Int))):=by
 unfold spot
 by_cases h:0≤o∧o<os.length
 ·obtain⟨x,hx,_⟩:=aX h
  have:=hp x hx
  rw[hx,dcT h.1,dcT h.2]
  dsimp only
  rw[w64 oM oM]
  simp;omega
 ·rw[ct h]
  dsimp only
  by_cases h1:0≤o
  ·rw[dcF (show¬o<(os.length:Int) by omega),Bool.and_false]
  ·rw[dcF h1];rfl
theorem f41_l2_eq(t:af)(x:aZ)(r:Option Bool)(ha:∀a∈x.alts,(-9223372036854775808≤a.entry∧a.entry≤9223372036854775807)∧-9223372036854775808≤a.time∧a.time≤9223372036854775807)(hl:x.alts.length<9223372036854775808)(n:Nat)(hn:n=9223372036854775808):
  f41_l2 t (λ_ _ _=>r) x n 0=bif x.alts.all (fq t x.obj) then r else some false:=
 hD x.alts (f41_l2 t (λ_ _ _=>r) x) r (fq t x.obj) n hn hl (λm j hj=>by
  have:=ha _ (List.getElem_mem hj)
  rw[f41_l2,gQ hj,cdT,ax hj,bnS,w1 hj hl,wO _ _ _ this.1 this.2,bnS]
  cases fq t x.obj x.alts[j]<;>rfl) (λm=>by rw[f41_l2,fJ,cdF])
end Go.Proofs.YtejcfgjpdocaoaaGreatDoor
set_option maxRecDepth 10000
namespace Go.Proofs.YtejcfgjpdocaoaaGreatDoor
open Go Go.Sk
def ig{α:Type}(q:List α→α→Bool):List α→List α→Bool
 |_,[]=>true
 |P,x::r=>q P x&&ig q (P++ [x]) r
theorem w7{α:Type}(xs:List α)(F:Nat→Int→Option Bool)(k:Option Bool)(q:List α→α→Bool)(hl:xs.length<9223372036854775808)
  (h0:∀n (i:Nat)(h:i<xs.length),F (n+1) (i:Int)=bif q (xs.take i) xs[i] then F n ((i+1:Nat):Int) else some false)
  (h1:∀n,F (n+1) (xs.length:Int)=k):∀(n i:Nat)(z:Int),z=(i:Int)→i≤xs.length→xs.length<n+i→F n z=bif ig q (xs.take i) (xs.drop i) then k else some false
 |0,i,z,_,_,h=>oM
 |n+1,i,z,hz,hi,h=>by
  subst hz
  by_cases hh:i<xs.length
  ·rw[aG hh,ig,←List.take_succ_eq_append_getElem hh,h0 n i hh,w7 xs F k q hl h0 h1 n (i+1) _ rfl oM oM]
   cases q (xs.take i) xs[i]<;>rfl
  ·have e:i=xs.length:=oM
   subst e
   rw[h1,List.drop_eq_nil_of_le (Nat.le_refl _)];rfl
theorem qB{α:Type}(xs:List α)(F:Nat→Int→Option Bool)(k:Option Bool)(q:List α→α→Bool)(n:Nat)(hn:n=9223372036854775808)(hl:xs.length<9223372036854775808)
  (h0:∀n (i:Nat)(h:i<xs.length),F (n+1) (i:Int)=bif q (xs.take i) xs[i] then F n ((i+1:Nat):Int) else some false)
  (h1:∀n,F (n+1) (xs.length:Int)=k):F n 0=bif ig q [] xs then k else some false:=by
 rw[w7 xs F k q hl h0 h1 n 0 0 rfl (Nat.zero_le _) oM,List.drop_zero,List.take_zero]
theorem pE{α:Type}(xs:List α)(j:Nat)(hj:j≤xs.length)(F:Nat→Int→Option Bool)(k:Option Bool)(p:α→Bool)(n:Nat)(hn:n=9223372036854775808)(hl:xs.length<9223372036854775808)
  (h0:∀n (i:Nat)(h:i<xs.length),i<j→F (n+1) (i:Int)=bif p xs[i] then F n ((i+1:Nat):Int) else some false)
  (h1:∀n,F (n+1) (j:Int)=k):F n 0=bif (xs.take j).all p then k else some false:=by
 have hL:(xs.take j).length=j:=by rw[List.length_take];omega
 refine hD (xs.take j) F k p n hn oM (λm i h=>?_) (λm=>by rw[hL];exact h1 m)
 rw[h0 m i oM oM,List.getElem_take]
def oG(n:Int)(P:List Int)(x:Int):Bool:= !(decide (x<1)||decide (x≥n))&&P.all λy=> !(decide (y=x))
theorem t8(P:List Int)(m:List (Int×Bool))(x:Int):inM (P.foldl (λm x=>bw m x true) m) x=(inM m x|| !(P.all λy=> !(decide (y=x)))):=by
 induction P generalizing m with
 |nil=>simp
 |cons y P ih=>
  rw[List.foldl_cons,ih,nq,List.all_cons]
  cases decide (y=x)<;>cases inM m x<;>simp
theorem oF(n:Int):∀(r P:List Int),ig (oG n) P r=fc n (P.foldl (λm x=>bw m x true) []) r
 |[],P=>rfl
 |x::r,P=>by
  rw[ig,fc,oF n r (P++ [x]),List.foldl_append,t8]
  have e:inM ([]:List (Int×Bool)) x=false:=rfl
  rw[e,Bool.false_or,oG]
  simp only[List.foldl_cons,List.foldl_nil]
  cases (decide (x<1)||decide (x≥n))<;>cases (P.all λy=> !(decide (y=x)))<;>rfl
theorem f41_l4_eq(t:af)(l:List Int)(r:Option Bool)(hl:l.length<9223372036854775808)(n:Nat)(hn:n=9223372036854775808):
  f41_l4 t (λ_=>r) l n 0=bif fc t.tasks.length [] l then r else some false:=by
 rw[show fc (t.tasks.length:Int) [] l=ig (oG t.tasks.length) [] l from(oF _ l []).symm]
 refine qB l (f41_l4 t (λ_=>r) l) r (oG t.tasks.length) n hn hl (λm i hi=>?_) (λm=>by rw[f41_l4,fJ,cdF])
 rw[f41_l4,gQ hi,cdT,aq,ax hi,bnS,w1 hi hl,bnS]
 unfold oG
 rw[pE l i oM (f41_l5 l (i:Int) λ_=>f41_l4 t (λ_=>r) l m ((i+1:Nat):Int)) (f41_l4 t (λ_=>r) l m ((i+1:Nat):Int)) (λy=> !(decide (y=l[i]))) _ rfl hl (λm' j hj hji=>by
  rw[f41_l5,dcT (by omega:(j:Int)<(i:Int)),cdT,ax hj,bnS,ax hi,bnS,w1 hj hl]
  cases decide (l[j]=l[i])<;>rfl) (λm'=>by rw[f41_l5,fJ,cdF])]
 cases decide (l[i]<1)<;>cases decide (l[i]≥(t.tasks.length:Int))<;>cases ((l.take i).all λy=> !(decide (y=l[i])))<;>rfl
theorem f41_l3_eq(t:af)(r:Option Bool)(hl:t.lists.length<9223372036854775808)(n:Nat)(hn:n=9223372036854775808):
  f41_l3 t (λ_=>r) n 0=bif t.lists.all (iT t) then r else some false:=by
 refine hD t.lists (f41_l3 t λ_=>r) r (iT t) n hn hl (λm i hi=>?_) (λm=>by rw[f41_l3,fJ,cdF])
 rw[f41_l3,gQ hi,cdT,aq,ax hi,bnS,w1 hi hl]
 generalize t.lists[i]=x
 unfold iT
 by_cases h:(x.length:Int)>32
 ·rw[dcT h,Bool.not_true,Bool.and_false];rfl
 ·rw[dcF h,cdF,f41_l4_eq t x _ oM _ rfl]
  cases fc t.tasks.length [] x<;>rfl
structure SzA(t:af):Prop where
 alts:∀x∈t.selects,∀a∈x.alts,(-9223372036854775808≤a.entry∧a.entry≤9223372036854775807)∧-9223372036854775808≤a.time∧a.time≤9223372036854775807
theorem f41_l1_eq(t:af)(ha:SzA t)(hp:∀o y,idx t.objs o=some y→1≤y.size∧y.size≤65536)(r:Option Bool)(hl:t.selects.length<9223372036854775808)(n:Nat)(hn:n=9223372036854775808):
  f41_l1 t (λ_=>r) n 0=bif t.selects.all (fX t) then r else some false:=by
 refine hD t.selects (f41_l1 t λ_=>r) r (fX t) n hn hl (λm i hi=>?_) (λm=>by rw[f41_l1,fJ,cdF])
 rw[f41_l1,gQ hi,cdT,aq,ax hi,bnS,w1 hi hl]
 have hx:=ha.alts _ (List.getElem_mem hi)
 generalize t.selects[i]=x at hx
 have hat:f51 t x.else_=at1 t x.else_:=rfl
 rw[f104_eq t x.obj 0 1 oM,rO (hp x.obj),hat]
 unfold fX
 by_cases hc:1≤(x.alts.length:Int)∧(x.alts.length:Int)≤16
 ·rw[dcF (show¬(x.alts.length:Int)<1 by omega),dcF (show¬(x.alts.length:Int)>16 by omega)]
  simp only[Bool.or_self,cdF,bnS,Bool.false_or]
  rw[f41_l2_eq t x _ hx oM _ rfl]
  by_cases h1:0≤x.obj
  ·rw[dcT h1,dcF (show¬x.obj<0 by omega)]
   by_cases h2:x.obj<(t.objs.length:Int)
   ·rw[dcT h2,dcF (show¬x.obj≥(t.objs.length:Int) by omega)]
    cases decide (x.else_= -1)<;>cases at1 t x.else_<;>cases x.alts.all (fq t x.obj)<;>rfl
   ·rw[dcF h2,dcT (show x.obj≥(t.objs.length:Int) by omega)];rfl
  ·rw[dcF h1,dcT (show x.obj<0 by omega)];rfl
 ·have:(decide ((x.alts.length:Int)<1)||decide ((x.alts.length:Int)>16))=true:=by
   rw[Bool.or_eq_true]
   simp only[decide_eq_true_eq]
   omega
  rw[this];rfl
theorem f41_eq(t:af)(ha:SzA t)(hp:∀o y,idx t.objs o=some y→1≤y.size∧y.size≤65536):f41 t=some (j0 t&&gt t):=by
 unfold f41 j0 gt
 by_cases h1:(t.selects.length:Int)>1024
 ·rw[dcT h1];rfl
 ·rw[dcF h1,Bool.false_or]
  by_cases h2:(t.lists.length:Int)>4096
  ·rw[dcT h2]
   cases t.selects.all (fX t)<;>rfl
  ·rw[dcF h2,cdF,aq,f41_l1_eq t ha hp _ oM _ rfl,aq,f41_l3_eq t _ oM _ rfl]
   cases t.selects.all (fX t)<;>cases t.lists.all (iT t)<;>rfl
def wk(t:af)(P:List aD)(x:aD):Bool:= !(d5 t x)&&P.all λg=> !((!(decide (g.from_≥x.from_)&&decide (g.to≤x.to)))&&(!(decide (g.to≤x.from_)||decide (x.to≤g.from_))))
theorem qI{x g:aD}(hx:x.from_<x.to)(hg:g.from_<g.to):ik x g= !((!(decide (g.from_≥x.from_)&&decide (g.to≤x.to)))&&(!(decide (g.to≤x.from_)||decide (x.to≤g.from_)))):=by
 have e:decide ((if x.from_>g.from_ then x.from_ else g.from_)<(if x.to<g.to then x.to else g.to))=(!(decide (g.to≤x.from_)||decide (x.to≤g.from_))):=by
  by_cases h1:g.to≤x.from_
  ·rw[dcT h1]
   refine dcF ?_
   split<;>split<;>omega
  ·by_cases h2:x.to≤g.from_
   ·rw[dcT h2,Bool.or_true]
    refine dcF ?_
    split<;>split<;>omega
   ·rw[dcF h1,dcF h2]
    refine dcT ?_
    split<;>split<;>omega
 unfold ik
 rw[e]
theorem sc{t:af}{x:aD}(h:d5 t x=false):x.from_<x.to:=by
 unfold d5 at h
 simp only[Bool.or_eq_false_iff,decide_eq_false_iff_not] at h
 omega
theorem qS(t:af):∀(r P:List aD),(∀g∈P,g.from_<g.to)→ig (wk t) P r=eB t P r
 |[],P,_=>rfl
 |x::r,P,hP=>by
  rw[ig,eB,wk]
  cases hb:d5 t x
  ·have hx:=sc hb
   rw[qS t r (P++ [x]) (λg hg=>by
    rcases List.mem_append.1 hg with h|h
    ·exact hP g h
    ·rw[List.mem_singleton] at h;subst h;exact hx)]
   have e:(P.all λg=> !((!(decide (g.from_≥x.from_)&&decide (g.to≤x.to)))&&(!(decide (g.to≤x.from_)||decide (x.to≤g.from_)))))=P.all (ik x):=by
    rw[Bool.eq_iff_iff,List.all_eq_true,List.all_eq_true]
    constructor
    ·intro h g hg
     rw[qI hx (hP g hg)];exact h g hg
    ·intro h g hg
     rw[←qI hx (hP g hg)];exact h g hg
   rw[e]
  ·rfl
theorem f42_eq(t:af):f42 t=some (iV t):=by
 unfold f42 iV
 cases h1:decide ((t.handlers.length:Int)>4096)
 ·have hl:(t.handlers.length:Int)≤4096:=by
   simp only[decide_eq_false_iff_not] at h1
   omega
  rw[cdF,aq,qB t.handlers (f42_l1 t λ_=>some true) (some true) (wk t) _ rfl oM (λn i hi=>by
   rw[f42_l1,gQ hi,cdT,aq,ax hi,bnS,w1 hi oM]
   generalize t.handlers[i]=x
   unfold wk
   have hat:f51 t x.at_=at1 t x.at_:=rfl
   have hb:(((((decide (x.from_<0))||(decide (x.from_≥x.to)))||(decide (x.to>(List.length t.insns:Int))))||(!(f51 t x.at_)))||((decide (x.at_≥x.from_))&&(decide (x.at_<x.to))))=d5 t x:=by
    rw[hat];rfl
   rw[hb]
   cases d5 t x
   ·rw[cdF,pE t.handlers i oM (f42_l2 t (i:Int) (λ_ _ _ _=>f42_l1 t (λ_=>some true) n ((i+1:Nat):Int)) x) (f42_l1 t (λ_=>some true) n ((i+1:Nat):Int)) (λg=> !((!(decide (g.from_≥x.from_)&&decide (g.to≤x.to)))&&(!(decide (g.to≤x.from_)||decide (x.to≤g.from_))))) _ rfl oM (λm j hj hji=>by
     rw[f42_l2,dcT (by omega:(j:Int)<(i:Int)),cdT,ax hj,bnS,w1 hj oM]
     generalize t.handlers[j]=g
     cases ((!(decide (g.from_≥x.from_)&&decide (g.to≤x.to)))&&(!(decide (g.to≤x.from_)||decide (x.to≤g.from_))))<;>rfl) (λm=>by rw[f42_l2,fJ,cdF])]
    rfl
   ·rfl) (λn=>by rw[f42_l1,fJ,cdF]),qS t _ _ λg hg=>by cases hg]
  cases eB t [] t.handlers<;>rfl
 ·rfl
def lpQ(t:af)(P:List Loop)(x:Loop):Bool:=pR t x&&P.all λy=> !(decide (y.back=x.back))
theorem wb(P:List Loop)(m:List (Int×Bool))(x:Loop):inM (P.foldl (λm x=>bw m x.back true) m) x.back=(inM m x.back|| !(P.all λy=> !(decide (y.back=x.back)))):=by
 induction P generalizing m with
 |nil=>simp
 |cons y P ih=>
  rw[List.foldl_cons,ih,nq,List.all_cons]
  cases decide (y.back=x.back)<;>cases inM m x.back<;>simp
theorem tG(t:af):∀(r P:List Loop),ig (lpQ t) P r=gr t (P.foldl (λm x=>bw m x.back true) []) r
 |[],P=>rfl
 |x::r,P=>by
  rw[ig,gr,tG t r (P++ [x]),List.foldl_append,wb]
  have e:inM ([]:List (Int×Bool)) x.back=false:=rfl
  rw[e,Bool.false_or,lpQ]
  simp only[List.foldl_cons,List.foldl_nil]
  cases pR t x<;>cases (P.all λy=> !(decide (y.back=x.back)))<;>rfl
theorem vY(t:af)(x:Loop):(((((!(f51 t x.head))||(!(f51 t x.back)))||(decide (x.head>x.back)))||(decide (x.bound<0)))||(decide (x.bound>2147483647)))=(((decide (x.head<0)||decide (x.head>x.back))||(!(at1 t x.back)))||(decide (x.bound<0)||decide (x.bound>2147483647))):=by
 have h1:f51 t x.head=(decide (x.head≥0)&&decide (x.head<(t.insns.length:Int))):=rfl
 have h2:f51 t x.back=(decide (x.back≥0)&&decide (x.back<(t.insns.length:Int))):=rfl
 unfold at1
 rw[h1,h2,Bool.eq_iff_iff]
 simp only[Bool.or_eq_true,Bool.not_eq_true',Bool.and_eq_false_iff,decide_eq_true_eq,decide_eq_false_iff_not]
 omega
theorem f43_eq(t:af):f43 t=some (oE t):=by
 unfold f43 oE
 cases h1:decide ((t.loops.length:Int)>4096)
 ·have hl:(t.loops.length:Int)≤4096:=by
   simp only[decide_eq_false_iff_not] at h1
   omega
  rw[cdF,aq,qB t.loops (f43_l1 t λ_=>some true) (some true) (lpQ t) _ rfl oM (λn i hi=>by
   rw[f43_l1,gQ hi,cdT,aq,ax hi,bnS,w1 hi oM]
   generalize t.loops[i]=x
   rw[vY]
   unfold lpQ pR
   cases hc:(decide (x.head<0)||decide (x.head>x.back))||(!(at1 t x.back))
   ·have h2:at1 t x.back=true:=by
     cases h:at1 t x.back
     ·rw[h] at hc;simp at hc
     ·rfl
    obtain⟨y,hy,_⟩:=aX (eV.1 h2)
    rw[hy,bnS]
    cases hd:(decide (x.bound<0)||decide (x.bound>2147483647))
    ·rw[Bool.or_self,cdF]
     have e:((((!decide (y.op=29))&&(!decide (y.op=30)))&&(!decide (y.op=31)))||(!decide (y.to=x.head)))= !(f97 y x.head):=by
      unfold f97
      cases decide (y.op=29)<;>cases decide (y.op=30)<;>cases decide (y.op=31)<;>cases decide (y.to=x.head)<;>rfl
     rw[e,pE t.loops i oM (f43_l2 t (i:Int) n (λ_ _ _ _ _ _ _ _ _ _=>f43_l1 t (λ_=>some true) n ((i+1:Nat):Int)) x y) (f43_l1 t (λ_=>some true) n ((i+1:Nat):Int)) (λg=> !(decide (g.back=x.back))) _ rfl oM (λm j hj hji=>by
      rw[f43_l2,dcT (by omega:(j:Int)<(i:Int)),cdT,ax hj,bnS,w1 hj oM]
      generalize t.loops[j]=g
      cases decide (g.back=x.back)<;>rfl) (λm=>by rw[f43_l2,fJ,cdF])]
     dsimp only
     cases f97 y x.head<;>rfl
    ·rw[Bool.or_true,Bool.not_true,Bool.and_false,Bool.false_and];rfl
   ·rfl) (λn=>by rw[f43_l1,fJ,cdF]),show ig (lpQ t) [] t.loops=gr t [] t.loops from tG t _ []]
  cases gr t [] t.loops<;>rfl
 ·rfl
end Go.Proofs.YtejcfgjpdocaoaaGreatDoor
set_option maxRecDepth 10000
namespace Go.Proofs.YtejcfgjpdocaoaaGreatDoor
open Go Go.Sk
def mj(z:Bool×Int):Int:=bif z.1 then z.2 else -1
theorem um(g:Int→ap→Bool×Int)(hg:∀l e,0≤l→l≤256→(g l e).1=true→0≤(g l e).2∧(g l e).2≤256):∀(L:List ap)(l:Int),0≤l→l≤256→(exL g L l).1=true→0≤(exL g L l).2∧(exL g L l).2≤256
 |[],l,h0,h1,_=>⟨h0,h1⟩
 |e::r,l,h0,h1,h=>by
  rw[exL] at h⊢
  cases hb:(g l e).1
  ·rw[hb] at h;cases h
  ·rw[hb,cdT] at h
   rw[cdT]
   have:=hg l e h0 h1 hb
   exact um g hg r _ this.1 this.2 h
theorem pW(os:List Obj)(ent:Int):∀(n:Nat)(deep left:Int)(e:ap),0≤left→left≤256→(exF os ent n deep left e).1=true→0≤(exF os ent n deep left e).2∧(exF os ent n deep left e).2≤256
 |0,deep,left,e,_,_,h=>by cases h
 |n+1,deep,left,e,h0,h1,h=>by
  rw[exF] at h⊢
  cases hb:((decide (IntKind.i64.wrap (left - 1)<0)||decide (deep>64))||cL os ent e)
  ·rw[hb,cdF] at h
   rw[cdF]
   rw[w64 oM oM] at hb h⊢
   have:¬left - 1<0:=by
    intro hh
    rw[dcT hh] at hb;simp at hb
   exact um _ (λl e a b c=>pW os ent n (deep+1) l e a b c) _ _ oM oM h
  ·rw[hb] at h;cases h
theorem f106_loop(rec:af→Int→ap→Int→Int→Option Int)(t:af)(ent:Int)(e:ap)(deep:Int)(g:Int→ap→Bool×Int)
  (hr:∀l x,0≤l→l≤256→rec t ent x (IntKind.i64.wrap (deep+1)) l=some (mj (g l x)))(hg:∀l e,0≤l→l≤256→(g l e).1=true→0≤(g l e).2∧(g l e).2≤256)(hl:e.l.length<9223372036854775808):
  ∀(n i:Nat)(z left:Int),z=(i:Int)→i≤e.l.length→e.l.length<n+i→0≤left→left≤256→f106s_l1 rec t ent e deep (λn=>some n) n left z=some (mj (exL g (e.l.drop i) left))
 |0,i,z,left,_,_,h,_,_=>oM
 |n+1,i,z,left,hz,hi,h,h0,h1=>by
  subst hz
  rw[f106s_l1,dcT (show left≥0 from h0),Bool.and_true]
  by_cases hh:i<e.l.length
  ·rw[aG hh,gQ hh,cdT,ax hh,bnS,hr _ _ h0 h1,bnS,w1 hh hl,exL]
   cases hb:(g left e.l[i]).1
   ·rw[mj,hb,cdF,cdF]
    cases n with
    |zero=>omega
    |succ n=>
     rw[f106s_l1,dcF (show¬(-1:Int)≥0 by omega),Bool.and_false];rfl
   ·have:=hg _ _ h0 h1 hb
    rw[mj,hb,cdT,cdT,f106_loop rec t ent e deep g hr hg hl n (i+1) _ _ rfl oM oM this.1 this.2]
  ·have ei:i=e.l.length:=oM
   subst ei
   rw[fJ,cdF,List.drop_eq_nil_of_le (Nat.le_refl _)];rfl
theorem pH(f p a b c d l lo hi:Bool):((!f)||(!((((((a&&b)&&c)&&d)&&l)&&lo)&&hi))||(!p))=(((((((((!f)||(!p))||(!a))||(!b))||(!c))||(!d))||(!l))||(!lo))||(!hi)):=by
 cases f<;>cases p<;>cases a<;>cases b<;>cases c<;>cases d<;>cases l<;>cases lo<;>cases hi<;>rfl
def eQ(z:Bool×Int×Int×Int×Int×Int)(e:ap):Bool:=
 ((((((((!z.1)||(!decide ((List.length e.l:Int)=z.2.1)))||(!decide (e.op=z.2.2.1)))||(!decide (e.n=z.2.2.2.1)))||(!decide (e.o=z.2.2.2.2.1)))||(!decide (e.off=z.2.2.2.2.2)))||(!decide (e.len=0)))||(!decide (e.lo=0)))||(!decide (e.hi=0))
theorem om(os:List Obj)(ent:Int)(e:ap):cL os ent e=eQ (bz os ent e) e:=rfl
def nH(rec136:af→Int→ap→Int→Int→Option (Int))(t0:af)(entries1:Int)(e2:ap)(deep3:Int)(n4:Int)(parts174:Int)(fine175:Bool)(c01176:Int)(c02177:Int)(c03178:Int)(c04179:Int):Option Int:=
 (bif (((!fine175)||(!(((((((decide (e2.op=c01176))&&(decide (e2.n=c02177)))&&(decide (e2.o=c03178)))&&(decide (e2.off=c04179)))&&(decide (e2.len=0)))&&(decide (e2.lo=0)))&&(decide (e2.hi=0)))))||(!decide ((List.length e2.l:Int)=parts174))) then some (-1) else an (λ(n186:Int)=>
 some n186) λk187=>
 (f106s_l1 rec136 t0 entries1 e2 deep3 k187 9223372036854775808 (IntKind.i64.wrap (n4 - 1)) 0))
theorem f106s_W(rec136:af→Int→ap→Int→Int→Option (Int))(t:af)(ent:Int)(e:ap)(deep left:Int):f106s rec136 t ent e deep left=
  (bif ((decide (left=0))||(decide (deep>64))) then some (-1) else
  bif (decide (e.kind=1)) then nH rec136 t ent e deep left 0 true 0 e.n 0 0 else
  bif (decide (e.kind=2)) then(Option.bind (f104 t e.o e.off 1) λr181=>Option.bind (bif r181 then(Option.bind (idx t.objs e.o) λx183=>some (!x183.ptr)) else some false) λb182=>nH rec136 t ent e deep left 0 b182 0 0 e.o e.off) else
  bif (decide (e.kind=14)) then nH rec136 t ent e deep left 0 ((decide (e.n≥0))&&(decide (e.n<ent))) 0 e.n 0 0 else
  bif (decide (e.kind=4)) then nH rec136 t ent e deep left 1 true 18 0 0 0 else
  bif (decide (e.kind=5)) then nH rec136 t ent e deep left 2 ((decide (e.op≥7))&&(decide (e.op≤15))) e.op 0 0 0 else
  bif (decide (e.kind=6)) then(bif decide (e.kind=6) then nH rec136 t ent e deep left 2 true 0 0 0 0 else some (-1)) else(bif decide (e.kind=7) then nH rec136 t ent e deep left 2 true 0 0 0 0 else some (-1))):=rfl
theorem wT(rec:af→Int→ap→Int→Int→Option Int)(t:af)(ent:Int)(e:ap)(deep left:Int)(g:Int→ap→Bool×Int)
  (hr:∀l x,0≤l→l≤256→rec t ent x (IntKind.i64.wrap (deep+1)) l=some (mj (g l x)))(hg:∀l e,0≤l→l≤256→(g l e).1=true→0≤(g l e).2∧(g l e).2≤256)(h0:1≤left)(h1:left≤256)
  (parts:Int)(fine:Bool)(a b c d:Int)(hp:parts≤2):nH rec t ent e deep left parts fine a b c d=some (mj (bif eQ (fine,parts,a,b,c,d) e then(false,IntKind.i64.wrap (left - 1)) else exL g e.l (IntKind.i64.wrap (left - 1)))):=by
 unfold nH
 rw[pH]
 show(bif eQ (fine,parts,a,b,c,d) e then _ else _)=_
 cases hs:eQ (fine,parts,a,b,c,d) e
 ·have hl:(e.l.length:Int)=parts:=by
   unfold eQ at hs
   simp only[Bool.or_eq_false_iff,Bool.not_eq_false',decide_eq_true_eq] at hs
   exact hs.1.1.1.1.1.1.1.2
  rw[cdF,cdF,aq,w64 oM oM,f106_loop rec t ent e deep g hr hg oM _ 0 0 _ rfl (Nat.zero_le _) oM oM oM,List.drop_zero]
 ·rfl
theorem f106s_eq(rec:af→Int→ap→Int→Int→Option Int)(t:af)(ent:Int)(e:ap)(deep left:Int)(g:Int→ap→Bool×Int)
  (hr:∀l x,deep≤64→0≤l→l≤256→rec t ent x (IntKind.i64.wrap (deep+1)) l=some (mj (g l x)))(hg:∀l e,0≤l→l≤256→(g l e).1=true→0≤(g l e).2∧(g l e).2≤256)(h0:0≤left)(h1:left≤256):
  f106s rec t ent e deep left=some (mj (bif (decide (IntKind.i64.wrap (left - 1)<0)||decide (deep>64))||cL t.objs ent e then(false,IntKind.i64.wrap (left - 1)) else exL g e.l (IntKind.i64.wrap (left - 1)))):=by
 rw[f106s_W]
 have e0:decide (IntKind.i64.wrap (left - 1)<0)=decide (left=0):=by
  rw[w64 oM oM]
  exact decide_eq_decide.2 oM
 rw[e0]
 cases hc:(decide (left=0)||decide (deep>64))
 ·simp only[Bool.or_eq_false_iff,decide_eq_false_iff_not] at hc
  have W:=wT rec t ent e deep left g (λl x=>hr l x oM) hg oM h1
  rw[cdF,Bool.false_or,om]
  unfold bz
  cases k1:decide (e.kind=1)
  ·cases k2:decide (e.kind=2)
   ·cases k3:decide (e.kind=14)
    ·cases k4:decide (e.kind=4)
     ·cases k5:decide (e.kind=5)
      ·cases k6:decide (e.kind=6)
       ·cases k7:decide (e.kind=7)
        ·rfl
        ·exact W 2 true 0 0 0 0 oM
       ·exact W 2 true 0 0 0 0 oM
      ·refine(W 2 _ e.op 0 0 0 oM).trans ?_
       have es:eQ ((decide (e.op≥7)&&decide (e.op≤15)),2,e.op,0,0,0) e=eQ (true,2,(if(if 15<e.op then 15 else e.op)>7 then(if 15<e.op then 15 else e.op) else 7),0,0,0) e:=by
        by_cases hh:7≤e.op∧e.op≤15
        ·have:(if(if 15<e.op then 15 else e.op)>7 then(if 15<e.op then 15 else e.op) else 7)=e.op:=by
          split<;>split at* <;>omega
         rw[this,dcT (show e.op≥7 from hh.1),dcT hh.2];rfl
        ·have:e.op≠(if(if 15<e.op then 15 else e.op)>7 then(if 15<e.op then 15 else e.op) else 7):=by
          split<;>split at* <;>omega
         have h2:(decide (e.op≥7)&&decide (e.op≤15))=false:=by
          rw[Bool.and_eq_false_iff]
          simp only[decide_eq_false_iff_not]
          omega
         unfold eQ
         dsimp only
         rw[h2,dcF this]
         simp
       rw[es];rfl
     ·exact W 1 true 18 0 0 0 oM
    ·exact W 0 _ 0 e.n 0 0 oM
   ·rw[cdF,cdF,cdT,cdT,f104_eq t e.o e.off 1 oM,bnS]
    cases hs:spot t.objs e.o e.off 1
    ·exact W 0 false 0 0 e.o e.off oM
    ·obtain⟨y,hy,_⟩:=iL hs
     rw[cdT,hy,bnS,bnS]
     refine(W 0 _ 0 0 e.o e.off oM).trans ?_
     dsimp only
     cases y.ptr<;>rfl
  ·exact W 0 true 0 e.n 0 0 oM
 ·rfl
theorem f106_eq(t:af)(ent:Int):∀(n:Nat)(deep left:Int)(e:ap),1≤deep→deep≤65→66<n+deep→0≤left→left≤256→f106 (n+1) t ent e deep left=some (mj (exF t.objs ent n deep left e))
 |0,deep,left,e,h0,h1,h2,_,_=>oM
 |n+1,deep,left,e,h0,h1,h2,h3,h4=>by
  rw[f106,exF]
  refine f106s_eq (f106 (n+1)) t ent e deep left (exF t.objs ent n (deep+1)) (λl x hd a b=>?_) (λl x a b c=>pW t.objs ent n (deep+1) l x a b c) h3 h4
  rw[w64 oM oM]
  exact f106_eq t ent n (deep+1) l x oM oM oM a b
end Go.Proofs.YtejcfgjpdocaoaaGreatDoor
set_option maxRecDepth 10000
namespace Go.Proofs.YtejcfgjpdocaoaaGreatDoor
open Go Go.Sk
theorem f21_eq(t:af)(a:Int):f21 t a=some (chk t a):=by
 unfold f21 chk
 have hat:f51 t a=at1 t a:=rfl
 rw[hat]
 cases h:at1 t a
 ·rw[ct (λhh=>by rw[eV.2 hh] at h;cases h)];rfl
 ·obtain⟨y,hy,_⟩:=aX (eV.1 h)
  rw[hy]
  dsimp only[bnS,cdT]
  cases decide (y.op=27)<;>rfl
def ckQ(t:af)(P:List bM)(x:bM):Bool:=(chk t x.at_&&(match P.getLast? with|none=>true|some y=>decide (y.at_<x.at_)))&& !(decide (x.kind<1)||decide (x.kind>5))
theorem yH{t:af}{a:Int}(h:chk t a=true):0≤a:=by
 unfold chk at h
 cases hx:idx t.insns a with
 |none=>rw[hx] at h;cases h
 |some y=>exact(fp hx).1
theorem uE(t:af):∀(r P:List bM),ig (ckQ t) P r=f' t (match P.getLast? with|none=> -1|some y=>y.at_) r
 |[],P=>rfl
 |x::r,P=>by
  rw[ig,f',uE t r (P++ [x]),List.getLast?_append,ckQ]
  simp only[List.getLast?_singleton,Option.or_some,Option.getD_some]
  cases hc:chk t x.at_
  ·simp
  ·have:=yH hc
   cases P.getLast? with
   |none=>
    dsimp only
    rw[dcT (show(-1:Int)<x.at_ by omega)];simp
   |some y=>
    dsimp only
    cases decide (y.at_<x.at_)<;>simp
theorem f40_l3_eq(t:af)(r:Option Bool)(hl:t.checks.length<9223372036854775808)(n:Nat)(hn:n=9223372036854775808):f40_l3 t (λ_=>r) n 0=bif f' t (-1) t.checks then r else some false:=by
 rw[show f' t (-1) t.checks=ig (ckQ t) [] t.checks from(uE t _ []).symm]
 refine qB t.checks (f40_l3 t λ_=>r) r (ckQ t) n hn hl (λm i hi=>?_) (λm=>by rw[f40_l3,fJ,cdF])
 rw[f40_l3,gQ hi,cdT,ax hi,bnS,w1 hi hl,f21_eq,bnS]
 have hprev:i≠0→idx t.checks (IntKind.i64.wrap ((i:Int) - 1))=(t.checks.take i).getLast? :=λh0=>by
  rw[w64 oM oM,show(i:Int) - 1=((i - 1:Nat):Int) by omega,ax oM,List.getLast?_eq_getElem?,List.length_take,List.getElem?_take_of_lt oM,show min i t.checks.length - 1=i - 1 by omega,geG]
 generalize hx:t.checks[i]=x
 unfold ckQ
 by_cases h0:i=0
 ·subst h0
  rw[dcF (show¬((0:Nat):Int)>0 by omega)]
  cases chk t x.at_<;>cases decide (x.kind<1)<;>cases decide (x.kind>5)<;>rfl
 ·rw[dcT (show((i:Nat):Int)>0 by omega),hprev h0]
  have hs:∃y,(t.checks.take i).getLast? =some y:=by
   rw[←hprev h0,w64 oM oM,show(i:Int) - 1=((i - 1:Nat):Int) by omega,ax oM]
   exact⟨_,rfl⟩
  obtain⟨y,hy⟩:=hs
  rw[hy]
  dsimp only[cdT,bnS]
  have e:decide (y.at_≥x.at_)= !(decide (y.at_<x.at_)):=by
   by_cases h:y.at_<x.at_
   ·rw[dcT h,dcF oM];rfl
   ·rw[dcF h,dcT oM];rfl
  rw[e]
  cases chk t x.at_<;>cases decide (y.at_<x.at_)<;>cases decide (x.kind<1)<;>cases decide (x.kind>5)<;>rfl
theorem f40_l1_eq(t:af)(r:Option Bool)(hl:t.prots.length<9223372036854775808)(n:Nat)(hn:n=9223372036854775808):f40_l1 t (λ_=>r) n 0=bif t.prots.all (fE t) then r else some false:=by
 refine hD t.prots (f40_l1 t λ_=>r) r (fE t) n hn hl (λm i hi=>?_) (λm=>by rw[f40_l1,fJ,cdF])
 rw[f40_l1,gQ hi,cdT,aq,ax hi,bnS,w1 hi hl]
 generalize t.prots[i]=x
 unfold fE
 cases hc:(decide (x.ceiling<0)||decide (x.ceiling>31))||decide ((x.barriers.length:Int)>8)
 ·have he:(x.barriers.length:Int)≤8:=by
   simp only[Bool.or_eq_false_iff,decide_eq_false_iff_not] at hc
   omega
  rw[cdF,hD x.barriers (f40_l2 t (λ_ _=>f40_l1 t (λ_=>r) m ((i+1:Nat):Int)) x) (f40_l1 t (λ_=>r) m ((i+1:Nat):Int)) (jd t x.barriers.length) _ rfl oM (λk j hj=>by
   rw[f40_l2,gQ hj,cdT,ax hj,bnS,w1 hj oM,f106_eq t _ 66 1 256 _ oM oM oM oM oM,bnS]
   unfold jd mj
   have hle:=pW t.objs x.barriers.length 66 1 256 x.barriers[j] oM oM
   cases hb:(exF t.objs x.barriers.length 66 1 256 x.barriers[j]).1
   ·rfl
   ·have:=hle hb
    rw[cdT,dcF oM];rfl) (λk=>by rw[f40_l2,fJ,cdF])]
  cases x.barriers.all (jd t x.barriers.length)<;>rfl
 ·rfl
theorem f40_eq(t:af)(hl:t.checks.length<9223372036854775808):f40 t=some (gi t&&f' t (-1) t.checks):=by
 unfold f40 gi
 by_cases h:(t.prots.length:Int)≤32
 ·rw[dcT h,dcF (show¬(t.prots.length:Int)>32 by omega),cdF,aq,aq,f40_l1_eq t _ oM _ rfl,f40_l3_eq t _ hl _ rfl]
  cases t.prots.all (fE t)<;>cases f' t (-1) t.checks<;>rfl
 ·rw[dcF h,dcT (show(t.prots.length:Int)>32 by omega),Bool.and_false];rfl
end Go.Proofs.YtejcfgjpdocaoaaGreatDoor
set_option maxRecDepth 10000
namespace Go.Proofs.YtejcfgjpdocaoaaGreatDoor
open Go Go.Sk
def sg(c:Int):Bool:=decide (c=68)||(decide (c=65)||(decide (c=66)||(decide (c=78)||(decide (c=77)||decide (c=84)))))
def mt:List Field→List (Int×Int)→Bool
 |[],[]=>true
 |f::F,(c,w)::L=>decide (f.name=c)&&(decide (f.lo=(f189 w).1)&&(decide (f.hi=(f189 w).2)&&(sg c&&(F.all (λg=> !(decide (g.name=c)))&&mt F L))))
 |_,_=>false
def goF(x:aE):List Field→aE→Bool
 |[],c=>(decide (c.op=0))&&((decide (c.d=0))&&((decide (c.a=0))&&((decide (c.b=0))&&((decide (c.n=0))&&((decide (c.m=0))&&((decide (c.to=0))&&true))))))
 |f::F,c=> !((decide ((f161 x f.name)<f.lo))||(decide ((f161 x f.name)>f.hi)))&&goF x F (f162 c f.name 0)
theorem fL{c:Int}(h:sg c=true):c=68∨c=65∨c=66∨c=78∨c=77∨c=84:=by
 unfold sg at h
 simpa only[Bool.or_eq_true,decide_eq_true_eq] using h
theorem f161_set{c:aE}{a b:Int}(ha:sg a=true)(hb:sg b=true)(h:b≠a):f161 (f162 c a 0) b=f161 c b:=by
 rcases fL ha with rfl|rfl|rfl|rfl|rfl|rfl<;>rcases fL hb with rfl|rfl|rfl|rfl|rfl|rfl<;>first|exact absurd rfl h|rfl
theorem f162_op(c:aE)(a:Int):(f162 c a 0).op=c.op:=by
 unfold f162
 rw[aq]
 cases decide (a=68)<;>cases decide (a=65)<;>cases decide (a=66)<;>cases decide (a=78)<;>cases decide (a=77)<;>rfl
theorem pO:∀{F:List Field}{L:List (Int×Int)},mt F L=true→∀f∈F,sg f.name=true
 |[],_,_,f,hf=>by cases hf
 |g::F,[],h,_,_=>by cases h
 |g::F,(c,w)::L,h,f,hf=>by
  simp only[mt,Bool.and_eq_true,decide_eq_true_eq] at h
  rcases List.mem_cons.1 hf with rfl|hf
  ·rw[h.1];exact h.2.2.2.1
  ·exact pO h.2.2.2.2.2 f hf
theorem ud(x:aE):∀(F:List Field)(L:List (Int×Int))(c:aE),mt F L=true→(∀f∈F,f161 c f.name=f161 x f.name)→c.op=0→goF x F c=fl L c.d c.a c.b c.n c.m c.to
 |[],[],c,_,_,h=>by rw[goF,fl,h];rfl
 |[],_::_,c,h,_,_=>by cases h
 |_::_,[],c,h,_,_=>by cases h
 |f::F,(ch,w)::L,c,h,hc,h0=>by
  have hs:=pO h
  simp only[mt,Bool.and_eq_true,decide_eq_true_eq] at h
  obtain⟨h1,h2,h3,h4,h5,h6⟩:=h
  have hne:∀g∈F,g.name≠ch:=λg hg=>by
   have:=List.all_eq_true.1 h5 g hg
   simpa using this
  have ih:=ud x F L (f162 c f.name 0) h6 (λg hg=>by
   rw[f161_set (hs f List.mem_cons_self) (hs g (List.mem_cons_of_mem _ hg)) (by rw[h1];exact hne g hg)]
   exact hc g (List.mem_cons_of_mem _ hg)) (by rw[f162_op];exact h0)
  rw[goF,ih,←hc f List.mem_cons_self,h2,h3,h1]
  rcases fL h4 with rfl|rfl|rfl|rfl|rfl|rfl<;>rfl
theorem f108_l1_eq(x:aE)(r:Row×Bool)(E:Bool)(hl:r.1.fields.length<9223372036854775808):∀(n i:Nat)(z:Int)(c:aE),z=(i:Int)→i≤r.1.fields.length→r.1.fields.length<n+i→
  f108_l1 x r (λo d a b n m t=>some (((decide (o=0))&&((decide (d=0))&&((decide (a=0))&&((decide (b=0))&&((decide (n=0))&&((decide (m=0))&&((decide (t=0))&&true)))))))&&E)) n z c.op c.d c.a c.b c.n c.m c.to=some (goF x (r.1.fields.drop i) c&&E)
 |0,i,z,c,_,_,h=>oM
 |n+1,i,z,c,hz,hi,h=>by
  subst hz
  rw[f108_l1]
  by_cases hh:i<r.1.fields.length
  ·rw[aG hh,goF,gQ hh,cdT,ax hh,bnS,w1 hh hl]
   have ih:=f108_l1_eq x r E hl n (i+1) _ (f162 c (r.1.fields[i]).name 0) rfl oM oM
   have ec:aE.mk c.op c.d c.a c.b c.n c.m c.to=c:=rfl
   rw[ec,ih]
   generalize r.1.fields[i]=f
   cases ((decide ((f161 x f.name)<f.lo))||(decide ((f161 x f.name)>f.hi)))<;>rfl
  ·have e:i=r.1.fields.length:=oM
   subst e
   rw[fJ,cdF,List.drop_eq_nil_of_le (Nat.le_refl _)];rfl
theorem f160_l1_eq(o:Int)(k:Option (Row×Bool))(hf:∀r∈f190,r.op≠o):∀(n i:Nat)(z:Int),z=(i:Int)→i≤f190.length→f190.length<n+i→f160_l1 o (λ_=>k) n z=k
 |0,i,z,_,_,h=>oM
 |n+1,i,z,hz,hi,h=>by
  subst hz
  have h57:f190.length=57:=rfl
  rw[f160_l1]
  by_cases hh:i<f190.length
  ·rw[gQ hh,cdT,ax hh,bnS,dcF (hf _ (List.getElem_mem hh)),cdF,w1 hh oM]
   exact f160_l1_eq o k hf n (i+1) _ rfl oM oM
  ·have e:i=f190.length:=oM
   subst e
   rw[fJ,cdF]
theorem f190_ops:(f190.all λr=>decide (1≤r.op)&&decide (r.op≤57))=true:=by decide+kernel
theorem f160_ok:∀k,k<57→(match f160 ((k:Nat)+1:Int) with|some r=>r.2&&(Nat.blt r.1.fields.length 100&&mt r.1.fields (lu ((k:Nat)+1:Int)))|none=>false)=true:=by decide+kernel
theorem f160_out{o:Int}(h:¬(1≤o∧o≤57)):f160 o=some ((Row.mk 0 ByteArray.empty []),false):=by
 unfold f160
 rw[aq]
 refine f160_l1_eq o _ (λr hr he=>?_) _ 0 0 rfl (Nat.zero_le _) (by have h57:f190.length=57:=rfl;omega)
 have:=List.all_eq_true.1 f190_ops r hr
 simp only[Bool.and_eq_true,decide_eq_true_eq] at this
 omega
theorem ws:lu 37=[(78,107),(77,115)]:=by decide+kernel
theorem f108_eq(x:aE):f108 x=some (ip x):=by
 unfold f108 ip
 by_cases h:1≤x.op∧x.op≤57
 ·obtain⟨k,hk⟩:∃k:Nat,x.op=(k:Int)+1:=⟨(x.op - 1).toNat,oM⟩
  have hf:=f160_ok k oM
  rw[←hk] at hf
  cases hr:f160 x.op with
  |none=>rw[hr] at hf;cases hf
  |some r=>
   rw[hr] at hf
   dsimp only at hf
   simp only[Bool.and_eq_true] at hf
   obtain⟨h2,h3,h4⟩:=hf
   have hlen:r.1.fields.length<100:=by simpa[Nat.blt_eq] using h3
   rw[bnS,h2,Bool.not_true,cdF,aq]
   have key:=f108_l1_eq x r (((!decide (x.op=27))||(decide (x.n≤x.m)))&&(((!decide (x.op=37))||(!decide (x.n=6)))||(decide (x.m=0)))) oM 9223372036854775808 0 0 (aE.mk 0 x.d x.a x.b x.n x.m x.to) rfl (Nat.zero_le _) oM
   rw[List.drop_zero,ud x _ _ _ h4 (λf hf=>by
    have:=pO h4 f hf
    rcases fL this with e|e|e|e|e|e<;>rw[e]<;>rfl) rfl] at key
   have e1:decide (1≤x.op)=true:=dcT h.1
   have e2:decide (x.op≤57)=true:=dcT h.2
   have e3:decide (x.n>x.m)= !(decide (x.n≤x.m)):=by
    by_cases hh:x.n≤x.m
    ·rw[dcT hh,dcF oM];rfl
    ·rw[dcF hh,dcT oM];rfl
   rw[e1,e2,e3]
   refine Eq.trans ?_ (key.trans ?_)
   ·simp only[Bool.and_assoc]
   ·dsimp only
    congr 1
    cases hfl:fl (lu x.op) x.d x.a x.b x.n x.m x.to
    ·simp
    ·by_cases h37:x.op=37
     ·have hn:6≤x.n∧x.n≤7:=by
       rw[h37,ws] at hfl
       simp only[fl,rng,f189] at hfl
       simp at hfl
       omega
      have:IntKind.u8.wrap x.n=x.n:=by
       rcases(show x.n=6∨x.n=7 by omega) with e|e<;>rw[e]<;>rfl
      rw[this]
      cases decide (x.op=27)<;>cases decide (x.n≤x.m)<;>cases decide (x.op=37)<;>cases decide (x.n=6)<;>cases decide (x.m=0)<;>rfl
     ·rw[dcF h37]
      cases decide (x.op=27)<;>cases decide (x.n≤x.m)<;>cases decide (x.n=6)<;>cases decide (x.m=0)<;>simp
 ·rw[f160_out h]
  have e2:(decide (1≤x.op)&&decide (x.op≤57))=false:=by
   rw[Bool.and_eq_false_iff]
   simp only[decide_eq_false_iff_not]
   omega
  rw[e2];rfl
end Go.Proofs.YtejcfgjpdocaoaaGreatDoor
set_option maxRecDepth 10000
namespace Go.Proofs.YtejcfgjpdocaoaaGreatDoor
open Go Go.Sk
theorem f109_eq(t:af)(a m:Int)(h0:0≤a)(h1:0≤m)(h2:a≤65536)(h3:m≤65536)(hl:t.insns.length≤65536):f109 t a m=some (decide ((IntKind.i64.wrap (a+m))≤(t.insns.length:Int))&&(cB t.insns a (IntKind.i64.wrap (a+m))).all (λy=>decide (y.op=29))):=by
 unfold f109
 rw[w64 oM oM]
 by_cases h:a+m≤(t.insns.length:Int)
 ·rw[dcT h,dcF (show¬a+m>(t.insns.length:Int) by omega),cdF,aq]
  have hL:(t.insns.take (a+m).toNat).length=(a+m).toNat:=by rw[List.length_take];omega
  have:=yL (t.insns.take (a+m).toNat) (f109_l1 t a m λ_=>some true) (some true) (λy=>decide (y.op=29)) oM (λn i hi=>by
   rw[f109_l1,w64 (x:=a+m) oM oM,dcT (show(i:Int)<a+m by omega),cdT,ax oM,bnS,w1 (n:=t.insns.length) oM oM,List.getElem_take]
   generalize t.insns[i]=y
   cases decide (y.op=29)<;>rfl) (λn=>by
   rw[f109_l1,w64 (x:=a+m) oM oM,dcF (show¬(((t.insns.take (a+m).toNat).length:Nat):Int)<a+m by omega),cdF]) 9223372036854775808 a.toNat a oM oM oM
  rw[this]
  have e:cB t.insns a (a+m)=(t.insns.take (a+m).toNat).drop a.toNat:=by
   rw[cB,List.drop_take]
  rw[e]
  cases ((t.insns.take (a+m).toNat).drop a.toNat).all (λy=>decide (y.op=29))<;>rfl
 ·rw[dcF h,dcT (show a+m>(t.insns.length:Int) by omega)];rfl
theorem f110_eq(t:af)(a n:Int)(hl:∀x∈t.tasks,x.entries.length<9223372036854775808):∃e,f110 t a n=some (e,(lF t a n).2)∧((lF t a n).2=true→(∃x∈t.tasks,e∈x.entries)∧IntKind.i64.wrap (IntKind.i64.wrap ((List.length e.ins:Int)+(List.length e.outs:Int))+1)=(lF t a n).1):=by
 unfold f110 lF
 by_cases h:0≤a∧a<t.tasks.length
 ·obtain⟨y,hy,hym⟩:=aX h
  rw[hy,dcF (show¬a<0 by omega),dcF (show¬a≥(t.tasks.length:Int) by omega)]
  dsimp only[bnS]
  by_cases h2:0≤n∧n<y.entries.length
  ·obtain⟨e,he,hem⟩:=aX h2
   rw[he,dcF (show¬n<0 by omega)]
   simp only[Bool.or_self,cdF,bnS]
   rw[dcF (show¬n≥(y.entries.length:Int) by omega)]
   exact⟨e,rfl,λ_=>⟨⟨y,hym,hem⟩,rfl⟩⟩
  ·rw[ct h2]
   by_cases h3:n<0
   ·rw[dcT h3];exact⟨_,rfl,λh=>by cases h⟩
   ·rw[dcF h3]
    simp only[Bool.or_self,cdF,bnS]
    rw[dcT (show n≥(y.entries.length:Int) by omega)];exact⟨_,rfl,λh=>by cases h⟩
 ·rw[ct h]
  have:(decide (a<0)||decide (a≥(t.tasks.length:Int)))=true:=by
   rw[Bool.or_eq_true]
   simp only[decide_eq_true_eq]
   omega
  rw[this];exact⟨_,rfl,λh=>by cases h⟩
theorem f111_eq(t:af)(p n:Int):f111 t p n=some (sf t p n):=by
 unfold f111 sf
 by_cases h:0≤p∧p<t.prots.length
 ·obtain⟨y,hy,_⟩:=aX h
  rw[hy,dcT (show p≥0 by omega),dcT h.2]
  by_cases h3:0≤n
  ·rw[dcT (show n≥0 from h3)];rfl
  ·rw[dcF (show¬n≥0 from h3)];rfl
 ·rw[ct h]
  have:(decide (p≥0)&&decide (p<(t.prots.length:Int)))=false:=by
   rw[Bool.and_eq_false_iff]
   simp only[decide_eq_false_iff_not]
   omega
  rw[this];rfl
theorem flds5:lu 5=[(68,114),(65,114),(66,108),(78,111),(77,115)]:=by decide+kernel
theorem flds6:lu 6=[(68,114),(65,114),(66,108),(78,111),(77,115)]:=by decide+kernel
theorem yp:lu 43=[(68,114),(78,101),(77,113)]:=by decide+kernel
theorem yo:lu 52=[(65,112),(66,101),(78,98),(84,115)]:=by decide+kernel
theorem ua{x:aE}(h:ip x=true)(ho:x.op=5∨x.op=6):0≤x.b:=by
 unfold ip at h
 have e:lu x.op=[(68,114),(65,114),(66,108),(78,111),(77,115)]:=by
  rcases ho with e|e<;>rw[e]
  ·exact flds5
  ·exact flds6
 rw[e] at h
 simp only[Bool.and_eq_true] at h
 have:=h.2.2
 simp only[fl,rng,f189] at this
 simp at this
 omega
theorem yf{x:aE}(h:ip x=true)(ho:x.op=43): -1≤x.m:=by
 unfold ip at h
 rw[ho,yp] at h
 simp only[Bool.and_eq_true] at h
 have:=h.2.2
 simp only[fl,rng,f189] at this
 simp at this
 omega
theorem ub{x:aE}(h:ip x=true)(ho:x.op=52):0≤x.to:=by
 unfold ip at h
 rw[ho,yo] at h
 simp only[Bool.and_eq_true] at h
 have:=h.2.2
 simp only[fl,rng,f189] at this
 simp at this
 omega
theorem mI{t:af}(hT:dq t=true){x:bX}(hx:x∈t.tasks){e:bq}(he:e∈x.entries):(e.ins.length:Int)≤8∧(e.outs.length:Int)≤8:=by
 unfold dq at hT
 rw[Bool.and_eq_true] at hT
 have:=List.all_eq_true.1 hT.2 x hx
 unfold eA at this
 rw[Bool.and_eq_true] at this
 have:=List.all_eq_true.1 this.2 e he
 unfold dR dw at this
 simp only[Bool.and_eq_true,decide_eq_true_eq] at this
 exact⟨this.1.1,this.2.1⟩
theorem pX{t:af}(hT:dq t=true):∀x∈t.tasks,x.entries.length<9223372036854775808:=λx hx=>by
 unfold dq at hT
 rw[Bool.and_eq_true] at hT
 have:=List.all_eq_true.1 hT.2 x hx
 unfold eA at this
 simp only[Bool.and_eq_true,Bool.not_eq_true',Bool.or_eq_false_iff,decide_eq_false_iff_not] at this
 omega
theorem f44_eq(t:af)(x:aE)(hT:dq t=true)(hl:t.insns.length≤65536):f44 t x=some (iq t x):=by
 unfold f44 iq
 rw[f108_eq,bnS]
 cases hm:ip x
 ·rfl
 ·rw[Bool.not_true,cdF,Bool.true_and]
  simp only[aq,f111_eq]
  have hat:f51 t x.to=at1 t x.to:=rfl
  rw[hat,f104_eq t x.n x.m 1 oM]
  cases decide (x.op=3)
  ·cases decide (x.op=4)
   ·cases h5:decide (x.op=5)
    ·cases h6:decide (x.op=6)
     ·cases decide (x.op=29)
      ·cases decide (x.op=30)
       ·cases decide (x.op=31)
        ·cases h32:decide (x.op=32)
         ·cases decide (x.op=33)
          ·cases decide (x.op=44)
           ·cases decide (x.op=45)
            ·cases decide (x.op=46)
             ·cases decide (x.op=56)
              ·cases decide (x.op=50)
               ·obtain⟨e,he,hn⟩:=f110_eq t x.a x.b (pX hT)
                rw[he]
                cases decide (x.op=49)
                ·cases h52:decide (x.op=52)
                 ·cases decide (x.op=53)
                  ·cases decide (x.op=55)
                   ·cases decide (x.op=54)
                    ·cases h43:decide (x.op=43)
                     ·rfl
                     ·have:=yf hm (of_decide_eq_true h43)
                      have e:decide (x.m= -1)=decide (x.m<0):=decide_eq_decide.2 oM
                      rw[e]
                      cases decide (x.m<0)<;>rfl
                    ·rfl
                   ·rfl
                  ·rfl
                 ·have:=ub hm (of_decide_eq_true h52)
                  have e:at1 t x.to=decide (x.to<(t.insns.length:Int)):=by
                   unfold at1
                   rw[dcT (show x.to≥0 from this),Bool.true_and]
                  rw[e];rfl
                ·cases hs:(lF t x.a x.b).2
                 ·rfl
                 ·obtain⟨⟨y,hy,hem⟩,hw⟩:=hn hs
                  have:=mI hT hy hem
                  dsimp only[cdT,cdF,bnS,Bool.or_false,Bool.true_and]
                  rw[hw,f104_eq t x.n 0 _ (by
                   rw[←hw,w64 (x:=(List.length e.ins:Int)+(List.length e.outs:Int)) oM oM,w64 oM oM]
                   omega)]
                  rfl
               ·rfl
              ·rfl
             ·rfl
            ·rfl
           ·rfl
          ·rfl
         ·obtain⟨a1,a2,a3,a4⟩:=pS hm (of_decide_eq_true h32)
          rw[f109_eq t x.to x.m a1 oM oM a4 hl]
          rfl
        ·rfl
       ·rfl
      ·rfl
     ·rw[f104_eq t x.n x.m x.b (ua hm (.inr (of_decide_eq_true h6)))];rfl
    ·rw[f104_eq t x.n x.m x.b (ua hm (.inl (of_decide_eq_true h5)))];rfl
   ·rfl
  ·rfl
end Go.Proofs.YtejcfgjpdocaoaaGreatDoor
set_option maxRecDepth 10000
namespace Go.Proofs.YtejcfgjpdocaoaaGreatDoor
open Go Go.Sk
theorem lc:∀(N:Nat)(L:List Nat),L.Nodup→(∀x∈L,x<N)→L.length≤N
 |0,[],_,_=>Nat.le_refl _
 |0,x::L,_,h=>absurd (h x List.mem_cons_self) (Nat.not_lt_zero _)
 |N+1,L,hn,h=>by
  by_cases hm:N∈L
  ·have h1:=List.length_erase_of_mem hm
   have h2:=lc N (L.erase N) (hn.erase N) (λx hx=>by
    have h3:=h x (List.mem_of_mem_erase hx)
    have h4:x≠N:=λe=>by subst e;exact hn.not_mem_erase hx
    omega)
   omega
  ·have:=lc N L hn (λx hx=>by
    have h3:=h x hx
    have h4:x≠N:=λe=>hm (e▸hx)
    omega)
   omega
def szS(L:List Obj):Nat:=(L.map λo=>o.size.toNat).sum
theorem m5:∀(L:List Obj)(a:Int),(∀o∈L,1≤o.size∧o.size≤16384)→0≤a→a+16384*(L.length:Int)≤9223372036854775807→m6 a L=a+(szS L:Int)
 |[],a,_,_,_=>by simp[m6,szS]
 |o::L,a,h,h0,h1=>by
  have ho:=h o List.mem_cons_self
  have hl:((o::L).length:Int)=(L.length:Int)+1:=sM
  rw[hl] at h1
  have ih:=m5 L (a+o.size) (λx hx=>h x (List.mem_cons_of_mem _ hx)) oM oM
  have e1:m6 a (o::L)=m6 (a+o.size) L:=by
   show m6 (IntKind.i64.wrap (a+o.size)) L=_
   rw[w64 oM oM]
  have e2:szS (o::L)=o.size.toNat+szS L:=by simp[szS]
  rw[e1,ih,e2]
  push_cast
  omega
theorem iI{L:List Obj}{i:Nat}(h:i<L.length):szS (L.take (i+1))=szS (L.take i)+L[i].size.toNat:=by
 unfold szS
 rw[List.take_succ_eq_append_getElem h,List.map_append,List.sum_append,List.map_cons,List.map_nil,List.sum_cons,List.sum_nil,Nat.add_zero]
theorem kU{L:List Obj}:∀{i j:Nat},i≤j→szS (L.take i)≤szS (L.take j):=by
 intro i j h
 induction h with
 |refl=>exact Nat.le_refl _
 |step h ih=>
  rename_i m
  by_cases hm:m<L.length
  ·rw[iI hm];omega
  ·have e:L.take (m+1)=L.take m:=by rw[List.take_of_length_le oM,List.take_of_length_le oM]
   rw[e];exact ih
def pos(os:List Obj)(x:dM):Nat:=szS (os.take x.o.toNat)+x.slot.toNat
theorem im{os:List Obj}(ho:∀o∈os,1≤o.size∧o.size≤16384){x:dM}(h:d4 os x=true):0≤x.o∧x.o.toNat<os.length∧0≤x.slot∧∀h:x.o.toNat<os.length,x.slot.toNat<os[x.o.toNat].size.toNat:=by
 unfold d4 at h
 rw[Bool.and_eq_true] at h
 obtain⟨y,hy,h1,h2⟩:=iL h.1
 have hb:=fp hy
 have hsz:=ho y (kz hy)
 rw[w64 oM oM] at h2
 refine⟨hb.1,oM,h1,λhh=>?_⟩
 have e:os[x.o.toNat]=y:=by
  have:=ax hh
  rw[show((x.o.toNat:Nat):Int)=x.o by omega,hy] at this
  exact(inS this).symm
 rw[e]
 omega
theorem tq{os:List Obj}(ho:∀o∈os,1≤o.size∧o.size≤16384){x:dM}(h:d4 os x=true):pos os x<szS os:=by
 obtain⟨_,h1,_,h2⟩:=im ho h
 have h3:=h2 h1
 have h4:=iI h1
 have h5:=kU (L:=os) (i:=x.o.toNat+1) (j:=os.length) oM
 rw[List.take_length] at h5
 unfold pos
 omega
theorem vi{os:List Obj}(ho:∀o∈os,1≤o.size∧o.size≤16384){x y:dM}(hx:d4 os x=true)(hy:d4 os y=true)(h:pos os x=pos os y):x.o=y.o∧x.slot=y.slot:=by
 obtain⟨a0,a1,a2,a3⟩:=im ho hx
 obtain⟨b0,b1,b2,b3⟩:=im ho hy
 have a4:=a3 a1
 have b4:=b3 b1
 have a5:=iI a1
 have b5:=iI b1
 unfold pos at h
 rcases Nat.lt_trichotomy x.o.toNat y.o.toNat with hlt|heq|hgt
 ·have:=kU (L:=os) (i:=x.o.toNat+1) (j:=y.o.toNat) hlt
  omega
 ·rw[heq] at h
  omega
 ·have:=kU (L:=os) (i:=y.o.toNat+1) (j:=x.o.toNat) hgt
  omega
theorem gw{os:List Obj}(ho:∀o∈os,1≤o.size∧o.size≤16384):∀(r P:List dM),fK os P r=true→(∀x∈P,d4 os x=true)→(P.map (pos os)).Nodup→((P++r).map (pos os)).Nodup∧∀x∈P++r,d4 os x=true
 |[],P,_,h1,h2=>by rw[List.append_nil];exact⟨h2,h1⟩
 |x::r,P,h,h1,h2=>by
  rw[fK] at h
  simp only[Bool.and_eq_true] at h
  obtain⟨⟨hx,hP⟩,hr⟩:=h
  have ih:=gw ho r (P++ [x]) hr (λy hy=>by
   rcases List.mem_append.1 hy with hy|hy
   ·exact h1 y hy
   ·rw[List.mem_singleton] at hy;subst hy;exact hx) (by
   rw[List.map_append,List.nodup_append]
   refine⟨h2,sM,λa ha b hb=>?_⟩
   simp only[List.map_cons,List.map_nil,List.mem_singleton] at hb
   subst hb
   intro e
   obtain⟨y,hy,rfl⟩:=List.mem_map.1 ha
   have hi:=vi ho (h1 y hy) hx e
   have:=List.all_eq_true.1 hP y hy
   unfold neI at this
   rw[dcT hi.1,dcT hi.2] at this
   cases this)
  rw[List.append_assoc,List.singleton_append] at ih
  exact ih
theorem jC{os:List Obj}(h:os.all (dE os)=true):∀o∈os,1≤o.size∧o.size≤16384:=λo ho=>by
 have:=List.all_eq_true.1 h o ho
 unfold dE at this
 simp only[Bool.and_eq_true,Bool.not_eq_true',Bool.or_eq_false_iff,decide_eq_false_iff_not] at this
 omega
theorem f38_eq(t:af)(hl:t.inits.length<9223372036854775808)(hs:∀o∈t.objs,o.set_.length<9223372036854775808):f38 t=some (gp t):=by
 unfold f38 gp
 cases h1:(decide ((t.objs.length:Int)>4096)||decide (t.excs<4))||decide (t.excs>64)
 ·have hol:(t.objs.length:Int)≤4096:=by
   simp only[Bool.or_eq_false_iff,decide_eq_false_iff_not] at h1
   omega
  rw[Bool.false_or,Bool.not_false,Bool.true_and]
  have hi:fK t.objs [] t.inits=dc t.objs [] t.inits:=jF t.objs t.inits []
  have core:f38_l1 t (λn111=>an (λ(_:Unit)=>some (decide (n111≤65536))) λk122=>f38_l2 t k122 9223372036854775808 0) 9223372036854775808 0 0=some (t.objs.all (dE t.objs)&&(dc t.objs [] t.inits&&decide (m6 0 t.objs≤65536))):=by
   rw[f38_l1_eq t _ oM hs _ 0 0 0 rfl (Nat.zero_le _) oM,List.drop_zero]
   cases t.objs.all (dE t.objs)
   ·rfl
   ·rw[cdT,aq,f38_l2_eq t _ hl hs _ 0 0 rfl (Nat.zero_le _) oM,List.drop_zero,List.take_zero,hi]
    cases dc t.objs [] t.inits<;>rfl
  by_cases h2:(t.inits.length:Int)>65536
  ·rw[dcT h2,cdT]
   congr 1
   cases ha:t.objs.all (dE t.objs)
   ·rfl
   ·have ho:=jC ha
    rw[Bool.true_and]
    cases hb:dc t.objs [] t.inits
    ·rfl
    ·rw[Bool.true_and]
     have hn:=gw ho t.inits [] (by rw[hi];exact hb) (λx hx=>by cases hx) List.nodup_nil
     rw[List.nil_append] at hn
     have hp:=lc (szS t.objs) (t.inits.map (pos t.objs)) hn.1 (λx hx=>by
      obtain⟨y,hy,rfl⟩:=List.mem_map.1 hx
      exact tq ho (hn.2 y hy))
     rw[List.length_map] at hp
     have hS:=m5 t.objs 0 ho oM oM
     rw[dcF]
     omega
  ·rw[dcF h2,cdF,aq]
   exact core
 ·rw[Bool.true_or];rfl
theorem f11_l1_eq(t:af)(r:Option Bool)(hT:dq t=true)(hl:t.insns.length≤65536)(n:Nat)(hn:n=9223372036854775808):f11_l1 t (λ_=>r) n 0=bif t.insns.all (iq t) then r else some false:=by
 refine hD t.insns (f11_l1 t λ_=>r) r (iq t) n hn oM (λm i hi=>?_) (λm=>by rw[f11_l1,fJ,cdF])
 rw[f11_l1,gQ hi,cdT,ax hi,bnS,w1 hi oM,f44_eq t _ hT hl,bnS]
 cases iq t t.insns[i]<;>rfl
theorem f11_eq(t:af)(h:Sz t)(ha:SzA t):f11 t=some (MayB t):=by
 unfold f11 MayB
 cases h1:decide ((t.insns.length:Int)<1)||decide ((t.insns.length:Int)>65536)
 ·have hol:(1:Int)≤t.insns.length∧(t.insns.length:Int)≤65536:=by
   simp only[Bool.or_eq_false_iff,decide_eq_false_iff_not] at h1
   omega
  rw[cdF,f38_eq t h.inits h.sets,f39_eq,f40_eq t h.checks,f42_eq,f43_eq]
  cases hO:gp t
  ·simp
  ·cases hT:dq t
   ·simp
   ·have ho:∀o∈t.objs,1≤o.size∧o.size≤16384:=by
     unfold gp at hO
     simp only[Bool.and_eq_true] at hO
     exact jC hO.2.1
    rw[f41_eq t ha (λo y hy=>by have:=ho y (kz hy);omega)]
    obtain⟨x,hx,_⟩:=aX (L:=t.insns) (i:=(t.insns.length:Int) - 1) oM
    rw[aq,w64 oM oM,f11_l1_eq t _ hT oM _ rfl]
    unfold qN
    rw[hx]
    dsimp only[bnS]
    have e:nk x=(((decide (x.op=29)||decide (x.op=33))||decide (x.op=34))||decide (x.op=57)):=by
     unfold nk
     simp only[Bool.or_assoc]
    rw[e]
    generalize(((decide (x.op=29)||decide (x.op=33))||decide (x.op=34))||decide (x.op=57))=b0
    generalize t.insns.all (iq t)=b9
    cases gi t
    ·simp
    ·cases f' t (-1) t.checks
     ·simp
     ·cases j0 t
      ·simp
      ·cases gt t
       ·simp
       ·cases iV t
        ·simp
        ·cases oE t
         ·simp
         ·cases b0<;>cases b9<;>rfl
 ·rfl
end Go.Proofs.YtejcfgjpdocaoaaGreatDoor
set_option maxRecDepth 10000
namespace Go.Proofs.YtejcfgjpdocaoaaGreatDoor
open Go Go.Sk
def Tot{α:Type}(x:Option α):Prop:=∃r,x=some r
theorem Tot.cb{α:Type}{c:Bool}{a b:Option α}(h1:c=true→Tot a)(h2:c=false→Tot b):Tot (bif c then a else b):=by
 cases c
 ·exact h2 rfl
 ·exact h1 rfl
theorem tX(t:af)(k:Int→Option Bool)(hk:∀n,Tot (k n))(hl:t.selects.length<9223372036854775808):∀(n i:Nat)(a z:Int),z=(i:Int)→i≤t.selects.length→t.selects.length<n+i→Tot (f8_l1 t k n a z)
 |0,i,a,z,_,_,h=>oM
 |n+1,i,a,z,hz,hi,h=>by
  subst hz
  rw[f8_l1]
  by_cases hh:i<t.selects.length
  ·rw[dcT (by omega:(i:Int)<(t.selects.length:Int)),cdT,ax hh,bnS,w64 (x:=(i:Int)+1) oM oM]
   exact tX t k hk hl n (i+1) _ _ (by push_cast;rfl) oM oM
  ·rw[dcF (by omega:¬(i:Int)<(t.selects.length:Int)),cdF]
   exact hk _
theorem tV(t:af)(k:Int→Option Bool)(hk:∀n,Tot (k n))(hl:t.lists.length<9223372036854775808):∀(n i:Nat)(a z:Int),z=(i:Int)→i≤t.lists.length→t.lists.length<n+i→Tot (f8_l2 t k n a z)
 |0,i,a,z,_,_,h=>oM
 |n+1,i,a,z,hz,hi,h=>by
  subst hz
  rw[f8_l2]
  by_cases hh:i<t.lists.length
  ·rw[dcT (by omega:(i:Int)<(t.lists.length:Int)),cdT,ax hh,bnS,w64 (x:=(i:Int)+1) oM oM]
   exact tV t k hk hl n (i+1) _ _ (by push_cast;rfl) oM oM
  ·rw[dcF (by omega:¬(i:Int)<(t.lists.length:Int)),cdF]
   exact hk _
theorem tS(t:af)(k:Int→Option Bool)(hk:∀n,Tot (k n))(hl:t.objs.length<9223372036854775808):∀(n i:Nat)(a z:Int),z=(i:Int)→i≤t.objs.length→t.objs.length<n+i→Tot (f8_l3 t k n a z)
 |0,i,a,z,_,_,h=>oM
 |n+1,i,a,z,hz,hi,h=>by
  subst hz
  rw[f8_l3]
  by_cases hh:i<t.objs.length
  ·rw[dcT (by omega:(i:Int)<(t.objs.length:Int)),cdT,ax hh,bnS,bnS,w64 (x:=(i:Int)+1) oM oM]
   exact tS t k hk hl n (i+1) _ _ (by push_cast;rfl) oM oM
  ·rw[dcF (by omega:¬(i:Int)<(t.objs.length:Int)),cdF]
   exact hk _
theorem tP(t:af)(u:Nat)(hu:u<t.tasks.length)(k:Int→Option Bool)(hk:∀n,Tot (k n)):∀(n i:Nat)(a z:Int),z=(i:Int)→i≤100→100<n+i→Tot (f8_l5 t (u:Int) k n a z)
 |0,i,a,z,_,_,h=>oM
 |n+1,i,a,z,hz,hi,h=>by
  subst hz
  rw[f8_l5]
  rw[ax hu,bnS]
  refine Tot.cb (λhc=>?_) (λ_=>hk _)
  rw[Bool.and_eq_true,decide_eq_true_eq,decide_eq_true_eq] at hc
  have hh:i<t.tasks[u].entries.length:=oM
  simp only[bnS,ax hh,w64 (x:=(i:Int)+1) oM oM]
  exact tP t u hu k hk n (i+1) _ _ (by push_cast;rfl) oM oM
theorem tQ(t:af)(k:Int→Option Bool)(hk:∀n,Tot (k n))(hl:t.tasks.length<9223372036854775808):∀(n i:Nat)(a z:Int),z=(i:Int)→i≤t.tasks.length→t.tasks.length<n+i→Tot (f8_l4 t k n a z)
 |0,i,a,z,_,_,h=>oM
 |n+1,i,a,z,hz,hi,h=>by
  subst hz
  rw[f8_l4]
  refine Tot.cb (λhc=>?_) (λ_=>hk _)
  rw[Bool.and_eq_true,decide_eq_true_eq] at hc
  have hh:i<t.tasks.length:=oM
  rw[aq,aq]
  refine tP t i hh _ (λb=>?_) _ 0 _ _ rfl oM oM
  rw[ax hh,bnS,w64 (x:=(i:Int)+1) oM oM]
  exact tQ t k hk hl n (i+1) _ _ (by push_cast;rfl) oM oM
theorem ra{e:ap}:∀{l:List ap},e∈l→pY e≤depL l
 |[],h=>by cases h
 |x::l,h=>by
  rw[depL]
  rcases List.mem_cons.1 h with rfl|h
  ·omega
  ·have:=ra h;omega
theorem sQ(rec_:ap→Option Int)(e:ap)(k:Int→Option Int)(hk:∀n,Tot (k n))(hr:∀x∈e.l,Tot (rec_ x))(N:Nat):∀(n i:Nat)(a z:Int),z=(i:Int)→i≤e.l.length→e.l.length<9223372036854775808→e.l.length<n+i→Tot (f24s_l1 rec_ e k n a z)
 |0,i,a,z,_,_,_,h=>oM
 |n+1,i,a,z,hz,hi,hl,h=>by
  subst hz
  rw[f24s_l1]
  refine Tot.cb (λhc=>?_) (λ_=>hk _)
  rw[Bool.and_eq_true,decide_eq_true_eq] at hc
  have hh:i<e.l.length:=oM
  obtain⟨r,h1⟩:=hr _ (List.getElem_mem hh)
  rw[ax hh,bnS,h1,bnS,w64 (x:=(i:Int)+1) oM oM]
  exact sQ rec_ e k hk hr N n (i+1) _ _ (by push_cast;rfl) oM hl oM
end Go.Proofs.YtejcfgjpdocaoaaGreatDoor
set_option maxRecDepth 10000
namespace Go.Proofs.YtejcfgjpdocaoaaGreatDoor
open Go Go.Sk
mutual
def SzE:ap→Prop
 | .mk _ _ _ _ _ _ _ _ l=>l.length<9223372036854775808∧SzEs l
def SzEs:List ap→Prop
 |[]=>True
 |e::l=>SzE e∧SzEs l
end
theorem pf{e:ap}:∀{l:List ap},SzEs l→e∈l→SzE e
 |[],_,h=>by cases h
 |x::l,h,hm=>by
  rw[SzEs] at h
  rcases List.mem_cons.1 hm with rfl|hm
  ·exact h.1
  ·exact pf h.2 hm
theorem f24_tot:∀(n:Nat)(e:ap),SzE e→pY e≤n→Tot (f24 n e)
 |0, .mk a b c d x f g h l,_,hd=>by rw[pY] at hd;omega
 |n+1, .mk a b c d x f g h l,hs,hd=>by
  rw[pY] at hd
  rw[SzE] at hs
  show Tot (f24s (f24 n) _)
  unfold f24s
  rw[aq]
  refine sQ (f24 n) _ _ (λn=>⟨_,rfl⟩) (λy hy=>f24_tot n y (pf hs.2 hy) (by have:=ra hy;dsimp only at this;omega)) 0 _ 0 _ _ rfl (Nat.zero_le _) hs.1 (by have:=hs.1;dsimp only;omega)
theorem tL(t:af)(u:Nat)(hu:u<t.prots.length)(k:Int→Option Bool)(hk:∀n,Tot (k n))(hp:∀p∈t.prots,∀b∈p.barriers,SzE b):∀(n i:Nat)(a z:Int),z=(i:Int)→i≤100→100<n+i→Tot (f8_l7 t (u:Int) k n a z)
 |0,i,a,z,_,_,h=>oM
 |n+1,i,a,z,hz,hi,h=>by
  subst hz
  rw[f8_l7]
  rw[ax hu,bnS]
  refine Tot.cb (λhc=>?_) (λ_=>hk _)
  rw[Bool.and_eq_true,Bool.and_eq_true,decide_eq_true_eq,decide_eq_true_eq] at hc
  have hh:i<t.prots[u].barriers.length:=oM
  obtain⟨r,h1⟩:=f24_tot _ t.prots[u].barriers[i] (hp _ (List.getElem_mem hu) _ (List.getElem_mem hh)) (Nat.le_refl _)
  have h1:f24w t.prots[u].barriers[i]=some r:=h1
  simp only[bnS,ax hh,h1,w64 (x:=(i:Int)+1) oM oM]
  exact tL t u hu k hk hp n (i+1) _ _ (by push_cast;rfl) oM oM
theorem tN(t:af)(k:Int→Option Bool)(hk:∀n,Tot (k n))(hl:t.prots.length<9223372036854775808)(hp:∀p∈t.prots,∀b∈p.barriers,SzE b):∀(n i:Nat)(a z:Int),z=(i:Int)→i≤t.prots.length→t.prots.length<n+i→Tot (f8_l6 t k n a z)
 |0,i,a,z,_,_,h=>oM
 |n+1,i,a,z,hz,hi,h=>by
  subst hz
  rw[f8_l6]
  refine Tot.cb (λhc=>?_) (λ_=>hk _)
  rw[Bool.and_eq_true,decide_eq_true_eq] at hc
  have hh:i<t.prots.length:=oM
  rw[aq,ax hh,bnS]
  refine tL t i hh _ (λb=>?_) hp _ 0 _ _ rfl oM oM
  rw[w64 (x:=(i:Int)+1) oM oM]
  exact tN t k hk hl hp n (i+1) _ _ (by push_cast;rfl) oM oM
end Go.Proofs.YtejcfgjpdocaoaaGreatDoor
set_option maxRecDepth 10000
namespace Go.Proofs.YtejcfgjpdocaoaaGreatDoor
open Go Go.Sk
structure SzL(t:af):Prop where
 handlers:t.handlers.length<9223372036854775808
 selects:t.selects.length<9223372036854775808
 lists:t.lists.length<9223372036854775808
 objs:t.objs.length<9223372036854775808
 tasks:t.tasks.length<9223372036854775808
 prots:t.prots.length<9223372036854775808
 exprs:∀p∈t.prots,∀b∈p.barriers,SzE b
theorem f8_tot(t:af)(h:SzL t):∃b,f8 t=some b:=by
 have key:Tot (f8 t):=by
  unfold f8
  refine Tot.cb (λ_=>⟨_,rfl⟩) (λ_=>?_)
  rw[aq]
  refine tX t _ (λn=>?_) h.selects _ 0 _ _ rfl (Nat.zero_le _) (by have:=h.selects;omega)
  rw[aq]
  refine tV t _ (λn=>?_) h.lists _ 0 _ _ rfl (Nat.zero_le _) (by have:=h.lists;omega)
  rw[aq]
  refine tS t _ (λn=>?_) h.objs _ 0 _ _ rfl (Nat.zero_le _) (by have:=h.objs;omega)
  rw[aq]
  refine tQ t _ (λn=>?_) h.tasks _ 0 _ _ rfl (Nat.zero_le _) (by have:=h.tasks;omega)
  rw[aq]
  exact tN t _ (λn=>⟨_,rfl⟩) h.prots h.exprs _ 0 _ _ rfl (Nat.zero_le _) (by have:=h.prots;omega)
 exact key
end Go.Proofs.YtejcfgjpdocaoaaGreatDoor
namespace Go.Tw
open Go Go.Sk
def cnt(L:List Int)(t:Int):Nat:=L.countP λx=>decide (x<t)
def to(L:List Int)(a:Int):Int:=a - cnt L a
theorem kD(t:Int):cnt [] t=0:=rfl
theorem eF(x:Int)(L:List Int)(t:Int):cnt (x::L) t=cnt L t+if x<t then 1 else 0:=by
 unfold cnt
 rw[List.countP_cons]
 by_cases h:x<t<;>simp[h]
theorem lJ(L:List Int)(t:Int):cnt L t≤L.length:=List.countP_le_length
theorem dA{L:List Int}{t:Int}(h:∀x∈L,t≤x):cnt L t=0:=by
 unfold cnt
 rw[List.countP_eq_zero]
 intro x hx
 have:=h x hx
 simp;omega
theorem lk{t:Int}:∀{L:List Int},L.Pairwise (·<·)→∀(h:Nat)(hh:h<L.length),(L[h]<t↔h<cnt L t)
 |[],_,h,hh=>by simp at hh
 |x::L,hp,0,hh=>by
  rw[eF]
  have h1:=List.pairwise_cons.1 hp
  by_cases hx:x<t
  ·simp[hx]
  ·rw[dA (t:=t) λy hy=>by have:=h1.1 y hy;omega]
   simp[hx]
 |x::L,hp,h+1,hh=>by
  have h1:=List.pairwise_cons.1 hp
  have h2:=lk (t:=t) h1.2 h (by simpa using hh)
  rw[List.getElem_cons_succ,h2,eF]
  by_cases hx:x<t
  ·simp[hx]
  ·rw[dA (t:=t) λy hy=>by have:=h1.1 y hy;omega]
   simp[hx]
theorem kE:∀{L:List Int},L.Pairwise (·<·)→∀{a b:Int},a≤b→(cnt L b:Int)≤cnt L a+(b - a)∧(a∉L→a<b→(cnt L b:Int)<cnt L a+(b - a))
 |[],_,a,b,h=>by rw[kD,kD];exact⟨oM,λ_ _=>oM⟩
 |x::L,hp,a,b,h=>by
  have h1:=List.pairwise_cons.1 hp
  rw[eF,eF]
  by_cases hxa:x<a
  ·have h2:=kE h1.2 h
   rw[if_pos hxa,if_pos oM]
   exact⟨oM,λhn hl=>by have:=h2.2 (λhm=>hn (List.mem_cons_of_mem _ hm)) hl;omega⟩
  ·by_cases hxb:x<b
   ·rw[if_neg hxa,if_pos hxb]
    have h0:cnt L (x+1)=0:=dA λy hy=>by have:=h1.1 y hy;omega
    have h00:cnt L a=0:=dA λy hy=>by have:=h1.1 y hy;omega
    have h2:=(kE h1.2 (a:=x+1) (b:=b) oM).1
    refine⟨oM,λhn _=>?_⟩
    have:a≠x:=λe=>hn (by rw[e];exact List.mem_cons_self)
    omega
   ·rw[if_neg hxa,if_neg hxb]
    have h0:cnt L a=0:=dA λy hy=>by have:=h1.1 y hy;omega
    have h2:cnt L b=0:=dA λy hy=>by have:=h1.1 y hy;omega
    exact⟨oM,λ_ _=>oM⟩
theorem m4{L:List Int}(hL:L.Pairwise (·<·)){a b:Int}(h:a≤b):to L a≤to L b:=by
 have:=(kE hL h).1
 unfold to;omega
theorem qs{L:List Int}(hL:L.Pairwise (·<·)){a b:Int}(h:a<b)(ha:a∉L):to L a<to L b:=by
 have:=(kE hL (Int.le_of_lt h)).2 ha h
 unfold to;omega
theorem xC{L:List Int}(hL:L.Pairwise (·<·)){a b:Int}(ha:a∉L)(hb:b∉L)(h:to L a=to L b):a=b:=by
 rcases Int.lt_trichotomy a b with h1|h1|h1
 ·have:=qs hL h1 ha;omega
 ·exact h1
 ·have:=qs hL h1 hb;omega
theorem rK{L:List Int}(hL:L.Pairwise (·<·))(h0:∀x∈L,0≤x){a:Int}(h:0≤a):0≤to L a:=by
 have h1:=m4 hL h
 have:to L 0=0:=by unfold to;rw[dA h0];rfl
 omega
structure Both(A B All:List Int):Prop where
 a:A.Pairwise (·<·)
 b:B.Pairwise (·<·)
 all:All.Pairwise (·<·)
 dis:∀x∈B,x∉A
 mem:∀x,x∈All↔x∈A∨x∈B
 cnt:∀t,cnt All t=cnt A t+Tw.cnt B t
theorem Both.asc{A B All:List Int}(h:Both A B All):(B.map (to A)).Pairwise (·<·):=by
 refine List.pairwise_map.2 ?_
 exact h.b.imp_of_mem λ{x y} hx _ hl=>qs h.a hl (h.dis x hx)
theorem Both.cnt2{A B All:List Int}(h:Both A B All)(t:Int):Tw.cnt (B.map (to A)) (to A t)=Tw.cnt B t:=by
 unfold Tw.cnt
 rw[List.countP_map]
 refine List.countP_congr λx hx=>?_
 simp only[Function.comp,decide_eq_true_eq]
 constructor
 ·intro hl
  refine Classical.byContradiction λhn=>?_
  have:=m4 h.a (show t≤x by omega)
  omega
 ·exact λhl=>qs h.a hl (h.dis x hx)
theorem Both.to2{A B All:List Int}(h:Both A B All)(t:Int):to (B.map (to A)) (to A t)=to All t:=by
 have h1:=h.cnt2 t
 have h2:=h.cnt t
 show to A t - (Tw.cnt (B.map (to A)) (to A t):Nat)=t - (Tw.cnt All t:Nat)
 rw[h1,h2]
 unfold to
 push_cast
 omega
theorem Both.mem2{A B All:List Int}(h:Both A B All){t:Int}(ht:t∉A):to A t∈B.map (to A)↔t∈B:=by
 rw[List.mem_map]
 constructor
 ·rintro⟨x,hx,e⟩
  rw[←xC h.a (h.dis x hx) ht e];exact hx
 ·exact λhx=>⟨t,hx,rfl⟩
end Go.Tw
set_option maxRecDepth 10000
namespace Go.Proofs.YtejcfgjpdocaoaaGreatDoor
open Go Go.Sk Go.Tw
theorem mc{x:Int}(h1: -9223372036854775808≤x)(h2:x≤9223372036854775807):IntKind.i64.wrap x=x:=by
 rw[IntKind.wrap_i64];omega
theorem dD{α β:Sort _}(k:α)(f:α→β):an k f=f k:=rfl
theorem di{α:Type}{L:List α}{i:Nat}(h:i<L.length):idx L (i:Int)=some L[i]:=by
 unfold idx
 rw[dcT (Int.natCast_nonneg i)]
 simp[h]
theorem tmid{i j:Nat}(h:i≤2305843009213693952)(h2:j≤2305843009213693952):IntKind.i64.wrap (Int.fdiv (IntKind.u64.wrap (IntKind.i64.wrap ((i:Int)+(j:Int)))) (2^min (Int.toNat 1) IntKind.u64.bits))=(((i+j) / 2:Nat):Int):=by
 rw[mc (x:=(i:Int)+j) oM oM,show IntKind.u64.wrap ((i:Int)+j)=(i:Int)+j by simp only[IntKind.wrap,IntKind.bits,IntKind.signed];simp;omega]
 rw[show((2:Int)^min (Int.toNat 1) IntKind.u64.bits)=2 by decide,Int.fdiv_eq_ediv_of_nonneg _ dC]
 rw[mc oM oM]
 omega
theorem tless(a b:Int):f149 a b=decide (a<b):=by
 unfold f149 f183
 simp
theorem nC(L:List Int)(t:Int)(hp:L.Pairwise (·<·))(hl:L.length<2305843009213693952)(K:Int→Option (Int×Bool)):∀(d n i j:Nat),j≤i+d→d<n→i≤cnt L t→cnt L t≤j→j≤L.length→f63_l1 L t K n (i:Int) (j:Int)=K (cnt L t:Int)
 |d,0,i,j,_,h,_,_,_=>oM
 |d,n+1,i,j,hd,hn,h1,h2,h3=>by
  rw[f63_l1]
  by_cases hij:i<j
  ·rw[dcT (show(i:Int)<(j:Int) by omega),cdT,tmid oM oM,di (show(i+j) / 2<L.length by omega),bnS,tless]
   have h4:=lk (t:=t) hp ((i+j) / 2) oM
   by_cases hx:L[(i+j) / 2]<t
   ·have h5:=h4.1 hx
    rw[dcT hx,cdT,mc oM oM,show(((i+j) / 2:Nat):Int)+1=(((i+j) / 2+1:Nat):Int) by push_cast;rfl]
    exact nC L t hp hl K (d - 1) n _ _ oM oM oM h2 h3
   ·have h5:¬(i+j) / 2<cnt L t:=λh=>hx (h4.2 h)
    rw[dcF hx,cdF]
    exact nC L t hp hl K (d - 1) n _ _ oM oM h1 oM oM
  ·rw[dcF (show¬(i:Int)<(j:Int) by omega),cdF,show cnt L t=i by omega]
theorem xm(L:List Int)(t:Int)(hp:L.Pairwise (·<·))(hl:L.length<2305843009213693952):f63 L t=some ((cnt L t:Int),decide (t∈L)):=by
 unfold f63
 obtain⟨F,hF⟩:∃F:Nat,F=9223372036854775808:=⟨_,rfl⟩
 rw[dD,←hF,show(0:Int)=((0:Nat):Int) from rfl,nC L t hp hl _ L.length F 0 L.length oM oM (Nat.zero_le _) (lJ L t) (Nat.le_refl _)]
 by_cases h:cnt L t<L.length
 ·rw[dcT (show((cnt L t:Nat):Int)<(L.length:Int) by omega),cdT,di h,bnS]
  have h4:=lk (t:=t) hp (cnt L t) h
  by_cases hx:L[cnt L t]=t
  ·rw[dcT hx,cdT,bnS,bnS,dcT (show t∈L from hx▸List.getElem_mem h)]
  ·have hn:t∉L:=λhm=>by
    obtain⟨m,hm1,hm2⟩:=List.getElem_of_mem hm
    have h5:=lk (t:=t) hp m hm1
    rcases Nat.lt_trichotomy m (cnt L t) with h6|h6|h6
    ·have:=h5.2 h6;omega
    ·subst h6;exact hx hm2
    ·have:=List.pairwise_iff_getElem.1 hp _ _ h hm1 h6
     have:=h4.1 oM;omega
   rw[dcF hx,cdF,show(f150 t)=false by unfold f150;simp,bnS,Bool.and_false,bnS,bnS,dcF hn]
 ·have hn:t∉L:=λhm=>by
   obtain⟨m,hm1,hm2⟩:=List.getElem_of_mem hm
   have h5:=lk (t:=t) hp m hm1
   have:=h5.2 oM;omega
  rw[dcF oM,cdF,bnS,dcF hn]
theorem gS(a:Int)(L:List Int)(hp:L.Pairwise (·<·))(hl:L.length<2305843009213693952)(ha: -4611686018427387904≤a)(ha2:a<4611686018427387904):f62 a L=some (to L a):=by
 unfold f62
 have:=lJ L a
 rw[xm L a hp hl,bnS,mc (by simp only;omega) (by simp only;omega)]
 rfl
theorem qT(a:Int)(L:List Int)(hp:L.Pairwise (·<·))(hl:L.length<2305843009213693952):f64 a L=some (decide (a∈L)):=by
 unfold f64
 rw[xm L a hp hl];rfl
end Go.Proofs.YtejcfgjpdocaoaaGreatDoor
set_option maxRecDepth 10000
namespace Go.Proofs.YtejcfgjpdocaoaaGreatDoor
open Go Go.Sk Go.Tw
def jmp(x:aE):Bool:=((decide (x.op≥29))&&(decide (x.op≤32)))||(decide (x.op=52))
def mvI(L:List Int)(x:aE):aE:=aE.mk x.op x.d x.a x.b x.n x.m (if jmp x=true then to L x.to else x.to)
def rmI(L:List Int):Int→List aE→List aE
 |_,[]=> []
 |i,x::xs=>if i∈L then rmI L (i+1) xs else mvI L x::rmI L (i+1) xs
def mvH(L:List Int)(h:aD):aD:=aD.mk (to L h.from_) (to L h.to) (to L h.at_) h.clean
def okH(h:aD):Bool:=decide (h.from_<h.to)
def mvL(L:List Int)(x:Loop):Loop:=Loop.mk (to L x.head) (to L x.back) x.bound
def mvC(L:List Int)(c:bM):bM:=bM.mk (to L c.at_) c.kind
def mvA(L:List Int)(a:cD):cD:=cD.mk a.kind a.entry a.guard a.time (to L a.at_)
def mvS(L:List Int)(s:aZ):aZ:=aZ.mk (s.alts.map (mvA L)) s.obj (if s.else_≥0 then to L s.else_ else s.else_)
def mvK(L:List Int)(k:bX):bX:=bX.mk k.prio (to L k.at_) k.entries k.deadline
def rmT(L:List Int)(t:af):af:=af.mk (rmI L 0 t.insns) ((t.handlers.map (mvH L)).filter okH) (t.loops.map (mvL L)) (t.selects.map (mvS L)) t.lists t.objs t.inits t.excs (t.tasks.map (mvK L)) t.prots ((t.checks.filter λc=> !decide (c.at_∈L)).map (mvC L))
theorem oX{L:List Int}(hp:L.Pairwise (·<·))(i:Int):cnt L (i+1)=cnt L i+if i∈L then 1 else 0:=by
 induction L with
 |nil=>rfl
 |cons x L ih=>
  have h1:=List.pairwise_cons.1 hp
  rw[eF,eF,ih h1.2]
  by_cases hx:x=i
  ·subst hx
   rw[if_neg (show x∉L from λhm=>by have:=h1.1 x hm;omega),if_pos (show x<x+1 by omega),if_neg (show¬x<x by omega),if_pos (List.mem_cons_self)]
  ·have e:(i∈x::L)↔i∈L:=by rw[List.mem_cons];exact⟨λh=>h.resolve_left λe=>hx e.symm, .inr⟩
   simp only[e]
   by_cases h2:x<i
   ·rw[if_pos h2,if_pos (show x<i+1 by omega)];omega
   ·rw[if_neg h2,if_neg (show¬x<i+1 by omega)];omega
section
variable{A B All:List Int}(h:Both A B All)
include h
theorem mvI2(x:aE):mvI (B.map (to A)) (mvI A x)=mvI All x:=by
 have e:jmp (mvI A x)=jmp x:=rfl
 show aE.mk x.op x.d x.a x.b x.n x.m (if jmp (mvI A x)=true then to (B.map (to A)) (if jmp x=true then to A x.to else x.to) else(if jmp x=true then to A x.to else x.to))=_
 rw[e]
 unfold mvI
 by_cases hj:jmp x=true
 ·rw[if_pos hj,if_pos hj,if_pos hj,h.to2]
 ·rw[if_neg hj,if_neg hj,if_neg hj]
theorem rmI2:∀(xs:List aE)(i:Int),rmI (B.map (to A)) (to A i) (rmI A i xs)=rmI All i xs
 |[],i=>rfl
 |x::xs,i=>by
  have e:=oX h.a i
  have ih:=rmI2 xs (i+1)
  by_cases hi:i∈A
  ·rw[if_pos hi] at e
   have:to A (i+1)=to A i:=by unfold to;omega
   rw[rmI,if_pos hi,rmI,if_pos ((h.mem i).2 (.inl hi)),←this]
   exact ih
  ·rw[if_neg hi] at e
   have:to A (i+1)=to A i+1:=by unfold to;omega
   rw[rmI,if_neg hi,rmI,rmI,mvI2 h,←this,ih]
   by_cases hb:i∈B
   ·rw[if_pos ((h.mem2 hi).2 hb),if_pos ((h.mem i).2 (.inr hb))]
   ·rw[if_neg (λhm=>hb ((h.mem2 hi).1 hm)),if_neg (λhm=>((h.mem i).1 hm).elim hi hb)]
theorem mvH2(x:aD):mvH (B.map (to A)) (mvH A x)=mvH All x:=by
 show aD.mk (to _ (to A x.from_)) (to _ (to A x.to)) (to _ (to A x.at_)) x.clean=_
 rw[h.to2,h.to2,h.to2];rfl
theorem rmH2:∀xs:List aD,(((xs.map (mvH A)).filter okH).map (mvH (B.map (to A)))).filter okH=(xs.map (mvH All)).filter okH
 |[]=>rfl
 |x::xs=>by
  have ih:=rmH2 xs
  simp only[List.map_cons,List.filter_cons]
  cases hk:okH (mvH A x) with
  |true=>
   rw[if_pos rfl,List.map_cons,List.filter_cons,mvH2 h,ih]
  |false=>
   have hn:okH (mvH All x)=false:=by
    refine dcF (λhl=>?_)
    have h1:¬to A x.from_<to A x.to:=of_decide_eq_false hk
    have h2:=m4 h.asc (show to A x.to≤to A x.from_ by omega)
    rw[h.to2,h.to2] at h2
    have:to All x.from_<to All x.to:=hl
    omega
   rw[hn,if_neg dC,if_neg dC,ih]
theorem rmC2:∀xs:List bM,(((xs.filter λc=> !decide (c.at_∈A)).map (mvC A)).filter λc=> !decide (c.at_∈B.map (to A))).map (mvC (B.map (to A)))=(xs.filter λc=> !decide (c.at_∈All)).map (mvC All)
 |[]=>rfl
 |x::xs=>by
  have ih:=rmC2 xs
  simp only[List.filter_cons]
  by_cases ha:x.at_∈A
  ·rw[dcT ha,dcT ((h.mem _).2 (.inl ha)),Bool.not_true,if_neg dC,if_neg dC,ih]
  ·rw[dcF ha,Bool.not_false,if_pos rfl,List.map_cons,List.filter_cons]
   by_cases hb:x.at_∈B
   ·rw[dcT (show(mvC A x).at_∈B.map (to A) from(h.mem2 ha).2 hb),dcT ((h.mem _).2 (.inr hb)),Bool.not_true,if_neg dC,if_neg dC,ih]
   ·rw[dcF (show(mvC A x).at_∉B.map (to A) from λhm=>hb ((h.mem2 ha).1 hm)),dcF (λhm=>((h.mem _).1 hm).elim ha hb),Bool.not_false,if_pos rfl,if_pos rfl,List.map_cons,List.map_cons,ih]
    show bM.mk (to _ (to A x.at_)) x.kind::_=_
    rw[h.to2];rfl
theorem mvS2(h0:∀x∈A,0≤x)(x:aZ):mvS (B.map (to A)) (mvS A x)=mvS All x:=by
 have e:∀l:List cD,(l.map (mvA A)).map (mvA (B.map (to A)))=l.map (mvA All):=λl=>by
  rw[List.map_map]
  refine List.map_congr_left λa _=>?_
  show cD.mk a.kind a.entry a.guard a.time (to _ (to A a.at_))=_
  rw[h.to2];rfl
 unfold mvS
 simp only[e]
 by_cases hs:x.else_≥0
 ·have:=rK h.a h0 (a:=x.else_) hs
  rw[if_pos hs,if_pos this,if_pos hs,h.to2]
 ·rw[if_neg hs,if_neg hs,if_neg hs]
theorem rmT2(h0:∀x∈A,0≤x)(t:af):rmT (B.map (to A)) (rmT A t)=rmT All t:=by
 have z:to A 0=0:=by unfold to;rw[dA h0];rfl
 have e1:=rmI2 h t.insns 0
 rw[z] at e1
 have e3:∀l:List Loop,(l.map (mvL A)).map (mvL (B.map (to A)))=l.map (mvL All):=λl=>by
  rw[List.map_map]
  refine List.map_congr_left λa _=>?_
  show Loop.mk (to _ (to A a.head)) (to _ (to A a.back)) a.bound=_
  rw[h.to2,h.to2];rfl
 have e4:∀l:List aZ,(l.map (mvS A)).map (mvS (B.map (to A)))=l.map (mvS All):=λl=>by
  rw[List.map_map]
  exact List.map_congr_left λa _=>mvS2 h h0 a
 have e5:∀l:List bX,(l.map (mvK A)).map (mvK (B.map (to A)))=l.map (mvK All):=λl=>by
  rw[List.map_map]
  refine List.map_congr_left λa _=>?_
  show bX.mk a.prio (to _ (to A a.at_)) a.entries a.deadline=_
  rw[h.to2];rfl
 unfold rmT
 simp only[e1,rmH2 h,e3,e4,e5,rmC2 h]
end
end Go.Proofs.YtejcfgjpdocaoaaGreatDoor
set_option maxRecDepth 10000
namespace Go.Proofs.YtejcfgjpdocaoaaGreatDoor
open Go Go.Sk Go.Tw
abbrev Pl(a:Int):Prop:= -4611686018427387904≤a∧a<4611686018427387904
theorem tlt{i n:Nat}(h:i<n):decide ((i:Int)<(n:Int))=true:=dcT oM
theorem ko{i n:Nat}(h:¬i<n):decide ((i:Int)<(n:Int))=false:=dcF oM
theorem tw1{i:Nat}(h:i≤1000000):IntKind.i64.wrap ((i:Int)+1)=((i+1:Nat):Int):=by rw[mc oM oM];push_cast;rfl
theorem bZ{α:Type}{c:Bool}(o:Option α)(h:c=true):bB c o=o:=by rw[h];rfl
theorem jr{α:Type}{n:Nat}{L M:List α}(hn:n≤100)(hl:L.length+M.length≤1000000):cq n L M=true:=by
 unfold cq
 have:(L.length+M.length)*n≤1000000*100:=Nat.mul_le_mul hl hn
 simp only[Bool.and_eq_true,decide_eq_true_eq]
 exact⟨by unfold maxLen;omega,oM⟩
section
variable(t:af)(L:List Int)(hp:L.Pairwise (·<·))(hl:L.length<2305843009213693952)
include hp hl
theorem tT(h0:t.insns.length≤100000)(hb:∀x∈t.insns,jmp x=true→Pl x.to)(K:List aE→Option (af×Int)):∀(n i:Nat)(acc:List aE),i≤t.insns.length→t.insns.length<n+i→acc.length≤i→f22_l3 t L K n (i:Int) acc=K (acc++rmI L i (t.insns.drop i))
 |0,i,acc,_,h,_=>oM
 |n+1,i,acc,hi,hn,ha=>by
  rw[f22_l3]
  by_cases hlt:i<t.insns.length
  ·have e1:((i:Int)+1)=((i+1:Nat):Int):=by push_cast;rfl
   rw[tlt hlt,cdT,dD,di hlt,bnS,qT _ L hp hl,bnS,tw1 oM,List.drop_eq_getElem_cons hlt,rmI]
   by_cases hm:(i:Int)∈L
   ·rw[dcT hm,cdT,if_pos hm,e1]
    exact tT h0 hb K n (i+1) acc oM oM oM
   ·rw[dcF hm,cdF,if_neg hm,dD,e1]
    have key:∀c:Int,c=(if jmp t.insns[i]=true then to L t.insns[i].to else t.insns[i].to)→(bB (cq 56 acc [(aE.mk t.insns[i].op t.insns[i].d t.insns[i].a t.insns[i].b t.insns[i].n t.insns[i].m c)])<|f22_l3 t L K n ((i+1:Nat):Int) (acc++ [(aE.mk t.insns[i].op t.insns[i].d t.insns[i].a t.insns[i].b t.insns[i].n t.insns[i].m c)]))=K (acc++mvI L t.insns[i]::rmI L ((i+1:Nat):Int) (t.insns.drop (i+1))):=λc hc=>by
     rw[bZ _ (jr dC (by simp only[List.length_singleton];omega)),tT h0 hb K n (i+1) _ oM oM (by simp only[List.length_append,List.length_singleton];omega),List.append_assoc]
     subst hc
     rfl
    cases hj:jmp t.insns[i] with
    |true=>
     have hpl:=hb _ (List.getElem_mem hlt) hj
     rw[show(((decide (t.insns[i].op≥29))&&(decide (t.insns[i].op≤32)))||(decide (t.insns[i].op=52)))=true from hj,cdT,gS _ L hp hl hpl.1 hpl.2,bnS]
     exact key _ (by rw[hj];rfl)
    |false=>
     rw[show(((decide (t.insns[i].op≥29))&&(decide (t.insns[i].op≤32)))||(decide (t.insns[i].op=52)))=false from hj,cdF]
     exact key _ (by rw[hj];rfl)
  ·rw[ko hlt,cdF,List.drop_eq_nil_of_le oM,rmI,List.append_nil]
theorem tR(h0:t.handlers.length≤100000)(hb:∀x∈t.handlers,Pl x.from_∧Pl x.to∧Pl x.at_)(K:List aD→Option (af×Int)):∀(n i:Nat)(acc:List aD),i≤t.handlers.length→t.handlers.length<n+i→acc.length≤i→f22_l4 t L K n (i:Int) acc=K (acc++((t.handlers.drop i).map (mvH L)).filter okH)
 |0,i,acc,_,h,_=>oM
 |n+1,i,acc,hi,hn,ha=>by
  rw[f22_l4]
  by_cases hlt:i<t.handlers.length
  ·obtain⟨b1,b2,b3⟩:=hb _ (List.getElem_mem hlt)
   rw[tlt hlt,cdT,dD,di hlt,bnS,gS _ L hp hl b1.1 b1.2,bnS,gS _ L hp hl b2.1 b2.2,bnS,gS _ L hp hl b3.1 b3.2,bnS,tw1 oM,List.drop_eq_getElem_cons hlt,List.map_cons,List.filter_cons]
   cases hk:okH (mvH L t.handlers[i]) with
   |true=>
    rw[show decide (to L t.handlers[i].from_<to L t.handlers[i].to)=true from hk,cdT,if_pos rfl,bZ _ (jr dC (by simp only[List.length_singleton];omega))]
    refine(tR h0 hb K n (i+1) _ oM oM (by simp only[List.length_append,List.length_singleton];omega)).trans ?_
    rw[List.append_assoc]
    rfl
   |false=>
    rw[show decide (to L t.handlers[i].from_<to L t.handlers[i].to)=false from hk,cdF,if_neg dC]
    exact tR h0 hb K n (i+1) acc oM oM oM
  ·rw[ko hlt,cdF,List.drop_eq_nil_of_le oM,List.map_nil,List.filter_nil,List.append_nil]
theorem xd(h0:t.loops.length≤100000)(hb:∀x∈t.loops,Pl x.head∧Pl x.back)(K:List Loop→Option (af×Int)):∀(n i:Nat)(acc:List Loop),i≤t.loops.length→t.loops.length<n+i→acc.length≤i→f22_l5 t L K n (i:Int) acc=K (acc++(t.loops.drop i).map (mvL L))
 |0,i,acc,_,h,_=>oM
 |n+1,i,acc,hi,hn,ha=>by
  rw[f22_l5]
  by_cases hlt:i<t.loops.length
  ·obtain⟨b1,b2⟩:=hb _ (List.getElem_mem hlt)
   rw[tlt hlt,cdT,di hlt,bnS,gS _ L hp hl b1.1 b1.2,bnS,gS _ L hp hl b2.1 b2.2,bnS,tw1 oM,List.drop_eq_getElem_cons hlt,List.map_cons,bZ _ (jr dC (by simp only[List.length_singleton];omega)),xd h0 hb K n (i+1) _ oM oM (by simp only[List.length_append,List.length_singleton];omega),List.append_assoc]
   rfl
  ·rw[ko hlt,cdF,List.drop_eq_nil_of_le oM,List.map_nil,List.append_nil]
theorem tO(h0:t.checks.length≤100000)(hb:∀x∈t.checks,Pl x.at_)(K:List bM→Option (af×Int)):∀(n i:Nat)(acc:List bM),i≤t.checks.length→t.checks.length<n+i→acc.length≤i→f22_l6 t L K n (i:Int) acc=K (acc++((t.checks.drop i).filter λc=> !decide (c.at_∈L)).map (mvC L))
 |0,i,acc,_,h,_=>oM
 |n+1,i,acc,hi,hn,ha=>by
  rw[f22_l6]
  by_cases hlt:i<t.checks.length
  ·have b1:=hb _ (List.getElem_mem hlt)
   rw[tlt hlt,cdT,dD,di hlt,bnS,qT _ L hp hl,bnS,tw1 oM,List.drop_eq_getElem_cons hlt,List.filter_cons]
   by_cases hm:t.checks[i].at_∈L
   ·rw[dcT hm,Bool.not_true,cdF,if_neg dC]
    exact tO h0 hb K n (i+1) acc oM oM oM
   ·rw[dcF hm,Bool.not_false,cdT,if_pos rfl,gS _ L hp hl b1.1 b1.2,bnS,List.map_cons,bZ _ (jr dC (by simp only[List.length_singleton];omega))]
    refine(tO h0 hb K n (i+1) _ oM oM (by simp only[List.length_append,List.length_singleton];omega)).trans ?_
    rw[List.append_assoc]
    rfl
  ·rw[ko hlt,cdF,List.drop_eq_nil_of_le oM,List.filter_nil,List.map_nil,List.append_nil]
end
end Go.Proofs.YtejcfgjpdocaoaaGreatDoor
set_option maxRecDepth 10000
namespace Go.Proofs.YtejcfgjpdocaoaaGreatDoor
open Go Go.Sk Go.Tw
def dW{α:Type}(f:α→α)(r:List α)(i:Nat):List α:=(r.take i).map f++r.drop i
theorem mu{α:Type}(f:α→α)(r:List α)(i:Nat):(dW f r i).length=r.length:=by
 unfold dW
 rw[List.length_append,List.length_map,List.length_take,List.length_drop];omega
theorem ju{α:Type}(f:α→α){r:List α}{i:Nat}(h:i<r.length):idx (dW f r i) (i:Int)=some r[i]:=by
 rw[di (by rw[mu];exact h)]
 congr 1
 have e:((r.take i).map f).length=i:=by rw[List.length_map,List.length_take];omega
 simp only[dW]
 rw[List.getElem_append_right oM,List.getElem_drop]
 congr 1
 omega
theorem jt{α:Type}(f:α→α){r:List α}{i:Nat}(h:i<r.length):(dW f r i).set i (f r[i])=dW f r (i+1):=by
 have e:((r.take i).map f).length=i:=by rw[List.length_map,List.length_take];omega
 unfold dW
 rw[List.set_append_right _ _ oM,e,Nat.sub_self,List.drop_eq_getElem_cons h,List.set_cons_zero,List.take_add_one,geG h,List.map_append,List.append_assoc]
 rfl
theorem jv{α:Type}(f:α→α)(r:List α){i:Nat}(h:r.length≤i):dW f r i=r.map f:=by
 unfold dW
 rw[List.take_of_length_le h,List.drop_eq_nil_of_le h,List.append_nil]
theorem wd{α:Type}{L:List α}{i:Nat}(h:i<L.length)(x:α):idx (List.set L i x) (i:Int)=some x:=by
 rw[di (by rw[List.length_set];exact h),List.getElem_set_self]
section
variable(L:List Int)(hp:L.Pairwise (·<·))(hl:L.length<2305843009213693952)
include hp hl
theorem xb(r:List bX)(h0:r.length≤100000)(hb:∀x∈r,Pl x.at_)(K:List bX→Option (af×Int)):∀(n i:Nat),i≤r.length→r.length<n+i→f22_l9 L r K n (i:Int) (dW (mvK L) r i)=K (r.map (mvK L))
 |0,i,_,h=>oM
 |n+1,i,hi,hn=>by
  rw[f22_l9]
  by_cases hlt:i<r.length
  ·have b1:=hb _ (List.getElem_mem hlt)
   rw[tlt hlt,cdT,ju _ hlt,bnS,gS _ L hp hl b1.1 b1.2,bnS,bnS,tw1 oM,Int.toNat_natCast]
   exact(congrArg (f22_l9 L r K n ((i+1:Nat):Int)) (jt (mvK L) hlt)).trans (xb r h0 hb K n (i+1) oM oM)
  ·rw[ko hlt,cdF,jv _ _ oM]
theorem xc(r:List cD)(h0:r.length≤100000)(hb:∀x∈r,Pl x.at_)(K:List cD→Option (af×Int)):∀(n i:Nat),i≤r.length→r.length<n+i→f22_l8 L r K n (i:Int) (dW (mvA L) r i)=K (r.map (mvA L))
 |0,i,_,h=>oM
 |n+1,i,hi,hn=>by
  rw[f22_l8]
  by_cases hlt:i<r.length
  ·have b1:=hb _ (List.getElem_mem hlt)
   rw[tlt hlt,cdT,ju _ hlt,bnS,gS _ L hp hl b1.1 b1.2,bnS,bnS,tw1 oM,Int.toNat_natCast]
   exact(congrArg (f22_l8 L r K n ((i+1:Nat):Int)) (jt (mvA L) hlt)).trans (xc r h0 hb K n (i+1) oM oM)
  ·rw[ko hlt,cdF,jv _ _ oM]
theorem tM(r:List aZ)(h0:r.length≤100000)(h1:∀x∈r,x.alts.length≤100000)(hb:∀x∈r,∀a∈x.alts,Pl a.at_)(he:∀x∈r,Pl x.else_)(K:List aZ→Option (af×Int)):∀(n i:Nat),i≤r.length→r.length<n+i→f22_l7 L r K n (i:Int) (dW (mvS L) r i)=K (r.map (mvS L))
 |0,i,_,h=>oM
 |n+1,i,hi,hn=>by
  rw[f22_l7]
  by_cases hlt:i<r.length
  ·have hm:=List.getElem_mem hlt
   have ha:=h1 _ hm
   have b2:=he _ hm
   have hls:i<(dW (mvS L) r i).length:=by rw[mu];exact hlt
   have e8:=λK2=>xc L hp hl r[i].alts ha (hb _ hm) K2 (Int.toNat ((r[i].alts.length:Int) - 0)+1) 0 (Nat.zero_le _) oM
   have z:dW (mvA L) r[i].alts 0=r[i].alts:=by unfold dW;simp
   rw[z,show((0:Nat):Int)=0 from rfl] at e8
   rw[tlt hlt,cdT,dD,ju _ hlt,bnS,f67o,bZ _ (jr dC (by simp only[List.length_nil];omega)),bnS,dD,e8,tw1 oM,Int.toNat_natCast]
   dsimp only
   rw[wd hls,bnS]
   have hs:=jt (mvS L) hlt
   by_cases hx:r[i].else_≥0
   ·rw[dcT (show(aZ.mk (List.map (mvA L) r[i].alts) r[i].obj r[i].else_).else_≥0 from hx),cdT,bnS,gS _ L hp hl b2.1 b2.2,bnS,bnS,List.set_set]
    have e:mvS L r[i]=aZ.mk (r[i].alts.map (mvA L)) r[i].obj (to L r[i].else_):=by unfold mvS;rw[if_pos hx]
    rw[e] at hs
    exact(congrArg (f22_l7 L r K n ((i+1:Nat):Int)) hs).trans (tM r h0 h1 hb he K n (i+1) oM oM)
   ·rw[dcF (show¬(aZ.mk (List.map (mvA L) r[i].alts) r[i].obj r[i].else_).else_≥0 from hx),cdF]
    have e:mvS L r[i]=aZ.mk (r[i].alts.map (mvA L)) r[i].obj r[i].else_:=by unfold mvS;rw[if_neg hx]
    rw[e] at hs
    exact(congrArg (f22_l7 L r K n ((i+1:Nat):Int)) hs).trans (tM r h0 h1 hb he K n (i+1) oM oM)
  ·rw[ko hlt,cdF,jv _ _ oM]
end
end Go.Proofs.YtejcfgjpdocaoaaGreatDoor
set_option maxRecDepth 10000
namespace Go.Proofs.YtejcfgjpdocaoaaGreatDoor
open Go Go.Sk Go.Tw
theorem lb{t:af}{a:Int}(h:at1 t a=true)(hl:t.insns.length≤65536):Pl a:=by
 have:=eV.1 h
 constructor<;>omega
theorem oJ{t:af}:∀{L P:List aD},eB t P L=true→∀x∈L,d5 t x=false
 |[],_,_,x,hx=>by cases hx
 |y::r,P,h,x,hx=>by
  rw[eB] at h
  simp only[Bool.and_eq_true,Bool.not_eq_true'] at h
  rcases List.mem_cons.1 hx with rfl|hx
  ·exact h.1.1
  ·exact oJ h.2 x hx
theorem qL{t:af}:∀{L:List Loop}{m:List (Int×Bool)},gr t m L=true→∀x∈L,pR t x=true
 |[],_,_,x,hx=>by cases hx
 |y::r,P,h,x,hx=>by
  rw[gr] at h
  simp only[Bool.and_eq_true] at h
  rcases List.mem_cons.1 hx with rfl|hx
  ·exact h.1.2
  ·exact qL h.2 x hx
theorem rb{t:af}:∀{L:List bM}{last:Int},f' t last L=true→∀x∈L,chk t x.at_=true
 |[],_,_,x,hx=>by cases hx
 |y::r,P,h,x,hx=>by
  rw[f'] at h
  simp only[Bool.and_eq_true] at h
  rcases List.mem_cons.1 hx with rfl|hx
  ·exact h.1.1.2
  ·exact rb h.2 x hx
theorem o4{t:af}{a:Int}(h:chk t a=true):∃x,idx t.insns a=some x∧(x.op=27∨x.op=28):=by
 unfold chk at h
 cases hx:idx t.insns a with
 |none=>rw[hx] at h;cases h
 |some x=>
  rw[hx] at h
  simp only[Bool.or_eq_true,decide_eq_true_eq] at h
  exact⟨x,rfl,h⟩
theorem uF{t:af}{a:Int}(h:chk t a=true):0≤a∧a<t.insns.length:=by
 obtain⟨x,hx,_⟩:=o4 h
 exact fp hx
theorem re{t:af}:∀(L:List bM)(last:Int),f' t last L=true→-1≤last→last<t.insns.length→(L.length:Int)+last+1≤t.insns.length
 |[],last,_,h1,h2=>by simp;omega
 |x::r,last,h,h1,h2=>by
  simp only[f',Bool.and_eq_true,decide_eq_true_eq] at h
  have hx:=uF h.1.1.2
  have:=re r x.at_ h.2 oM hx.2
  simp;omega
theorem rX{t:af}(hm:gp t=true):t.inits.length≤65536:=by
 unfold gp at hm
 simp only[Bool.and_eq_true,Bool.not_eq_true',Bool.or_eq_false_iff,decide_eq_false_iff_not,decide_eq_true_eq] at hm
 obtain⟨h1,h2,h3,h4⟩:=hm
 have ho:=jC h2
 have hi:fK t.objs [] t.inits=true:=by rw[←h3];exact jF t.objs t.inits []
 obtain⟨n1,n2⟩:=gw ho t.inits [] hi sM sM
 rw[List.nil_append] at n1 n2
 have hp:=lc (szS t.objs) _ n1 (λx hx=>by
  obtain⟨y,hy,rfl⟩:=List.mem_map.1 hx
  exact tq ho (n2 y hy))
 rw[List.length_map] at hp
 rw[m5 t.objs 0 ho oM oM] at h4
 omega
structure Bd(t:af):Prop where
 n:1≤t.insns.length∧t.insns.length≤65536
 handlers:t.handlers.length≤4096
 loops:t.loops.length≤4096
 selects:t.selects.length≤1024
 alts:∀x∈t.selects,x.alts.length≤16
 lists:t.lists.length≤4096
 list:∀l∈t.lists,l.length≤32
 objs:t.objs.length≤4096
 sets:∀o∈t.objs,o.set_.length≤4096
 inits:t.inits.length≤65536
 tasks:t.tasks.length≤32
 entries:∀x∈t.tasks,x.entries.length≤8
 forms:∀x∈t.tasks,∀e∈x.entries,e.ins.length≤8∧e.outs.length≤8
 prots:t.prots.length≤32
 bars:∀p∈t.prots,p.barriers.length≤8∧∀b∈p.barriers,jd t p.barriers.length b=true
 checks:t.checks.length≤65536
 plI:∀x∈t.insns,jmp x=true→Pl x.to
 plH:∀x∈t.handlers,Pl x.from_∧Pl x.to∧Pl x.at_
 okH:∀x∈t.handlers,x.from_<x.to
 plL:∀x∈t.loops,Pl x.head∧Pl x.back
 plA:∀x∈t.selects,∀a∈x.alts,Pl a.at_
 plE:∀x∈t.selects,Pl x.else_
 plK:∀x∈t.tasks,Pl x.at_
 plC:∀x∈t.checks,Pl x.at_
theorem xY{t:af}{x:aE}(hf:iq t x=true)(hl:t.insns.length≤65536)(hj:jmp x=true):Pl x.to:=by
 unfold iq at hf
 rw[Bool.and_eq_true] at hf
 obtain⟨hm,hf⟩:=hf
 unfold jmp at hj
 simp only[Bool.or_eq_true,Bool.and_eq_true,decide_eq_true_eq] at hj
 by_cases h32:x.op=32
 ·have:=pS hm h32
  constructor<;>omega
 ·by_cases h52:x.op=52
  ·have h0:=ub hm h52
   rw[h52] at hf
   simp at hf
   constructor<;>omega
  ·have h3:x.op=29∨x.op=30∨x.op=31:=oM
   rcases h3 with h3|h3|h3
   all_goals
    rw[h3] at hf
    simp at hf
    exact lb hf hl
theorem Bd.of{t:af}(hs:Sz t)(h:MayB t=true):Bd t:=by
 have hv:=wW hs h
 unfold MayB at h
 simp only[Bool.and_eq_true,Bool.not_eq_true',Bool.or_eq_false_iff,decide_eq_false_iff_not,List.all_eq_true] at h
 obtain⟨hn,hlast,hobj,htask,hlist,hprot,hsel,hhdl,hlp,hck,hfit⟩:=h
 have hl:t.insns.length≤65536:=oM
 have htask':=htask
 unfold dq at htask
 unfold gt at hlist
 unfold gi at hprot
 unfold j0 at hsel
 unfold iV at hhdl
 unfold oE at hlp
 simp only[Bool.and_eq_true,Bool.not_eq_true',Bool.or_eq_false_iff,decide_eq_false_iff_not,decide_eq_true_eq,List.all_eq_true] at htask hlist hprot hsel hhdl hlp
 have hH:=oJ hhdl.2
 have hL:=qL hlp.2
 have hC:=rb hck
 refine⟨hv.n,oM,oM,oM,?_,oM,?_,hv.objs,λo ho=>by have:=(hv.o ho).2.2.2;omega,rX hobj,oM,?_,λx hx e he=>by have:=mI htask' hx he;omega,oM,?_,?_,λx hx hj=>xY (hfit x hx) hl hj,?_,?_,?_,?_,?_,?_,?_⟩
 ·intro x hx
  have:=hsel.2 x hx
  unfold fX at this
  simp only[Bool.and_eq_true,Bool.not_eq_true',Bool.or_eq_false_iff,decide_eq_false_iff_not] at this
  omega
 ·intro l hl
  have:=hlist.2 l hl
  unfold iT at this
  simp only[Bool.and_eq_true,Bool.not_eq_true',decide_eq_false_iff_not] at this
  omega
 ·intro x hx
  have:=htask.2 x hx
  unfold eA at this
  simp only[Bool.and_eq_true,Bool.not_eq_true',Bool.or_eq_false_iff,decide_eq_false_iff_not] at this
  omega
 ·intro p hp
  have:=hprot.1 p hp
  unfold fE at this
  simp only[Bool.and_eq_true,Bool.not_eq_true',Bool.or_eq_false_iff,decide_eq_false_iff_not,List.all_eq_true] at this
  exact⟨oM,this.2⟩
 ·have:=re t.checks (-1) hck oM oM
  omega
 ·intro x hx
  have:=hH x hx
  unfold d5 at this
  simp only[Bool.or_eq_false_iff,Bool.not_eq_false',decide_eq_false_iff_not] at this
  have h2:=lb this.1.2 hl
  exact⟨⟨oM,oM⟩,⟨oM,oM⟩,h2⟩
 ·intro x hx
  have:=hH x hx
  unfold d5 at this
  simp only[Bool.or_eq_false_iff,Bool.not_eq_false',decide_eq_false_iff_not] at this
  omega
 ·intro x hx
  have:=hL x hx
  unfold pR at this
  simp only[Bool.and_eq_true,Bool.or_eq_false_iff,Bool.not_eq_true',Bool.not_eq_false',decide_eq_false_iff_not] at this
  have h2:=eV.1 this.1.1.2
  exact⟨⟨oM,oM⟩,⟨oM,oM⟩⟩
 ·intro x hx a ha
  have:=hsel.2 x hx
  unfold fX at this
  simp only[Bool.and_eq_true,List.all_eq_true] at this
  have:=this.2 a ha
  unfold fq at this
  simp only[Bool.and_eq_true] at this
  exact lb this.1.1 hl
 ·intro x hx
  have:=hsel.2 x hx
  unfold fX at this
  simp only[Bool.and_eq_true,Bool.not_eq_true',Bool.or_eq_false_iff,Bool.and_eq_false_iff,Bool.not_eq_false',decide_eq_true_eq] at this
  rcases this.1.2 with h1|h1
  ·constructor<;>omega
  ·exact lb h1 hl
 ·intro x hx
  have:=htask.2 x hx
  unfold eA at this
  simp only[Bool.and_eq_true,Bool.not_eq_true',Bool.or_eq_false_iff,Bool.not_eq_false'] at this
  exact lb this.1.1.1.1.2 hl
 ·intro x hx
  have:=uF (hC x hx)
  constructor<;>omega
theorem tW(L:List Int)(h0:L.length≤100000)(K:List Int→Option (af×Int)):∀(n i:Nat),i≤L.length→L.length<n+i→f22_l1 L K n (i:Int) (L.take i)=K L
 |0,i,_,h=>oM
 |n+1,i,hi,hn=>by
  rw[f22_l1]
  by_cases hlt:i<L.length
  ·have e:L.take i++ [L[i]]=L.take (i+1):=(List.take_succ_eq_append_getElem hlt).symm
   rw[tlt hlt,cdT,di hlt,bnS,dD,bZ _ (jr dC (by simp only[List.length_singleton,List.length_take];omega)),tw1 oM,e]
   exact tW L h0 K n (i+1) oM oM
  ·rw[ko hlt,cdF,List.take_of_length_le oM]
theorem tU(t:af)(L:List Int)(hp:L.Pairwise (·<·))(hc:∀x∈L,chk t x=true)(h0:L.length≤100000)(K:Unit→Option (af×Int)):∀(n i:Nat),i≤L.length→L.length<n+i→f22_l2 t L K n (i:Int)=K ()
 |0,i,_,h=>oM
 |n+1,i,hi,hn=>by
  rw[f22_l2]
  by_cases hlt:i<L.length
  ·rw[tlt hlt,cdT,di hlt,bnS,f61_eq,hc _ (List.getElem_mem hlt),bnS,Bool.not_true,cdF,tw1 oM]
   have ih:=tU t L hp hc h0 K n (i+1) oM oM
   by_cases hz:i=0
   ·subst hz
    rw[dcF (show¬((0:Nat):Int)>0 by omega),cdF,bnS,bnS,cdF]
    exact ih
   ·rw[dcT (show(i:Int)>0 by omega),cdT,mc oM oM,show(i:Int) - 1=((i - 1:Nat):Int) by omega,di (show i - 1<L.length by omega),bnS,bnS,bnS]
    have:=List.pairwise_iff_getElem.1 hp (i - 1) i oM hlt oM
    rw[dcF (show¬L[i - 1]=L[i] by omega),cdF]
    exact ih
  ·rw[ko hlt,cdF]
theorem jZ(n:Nat):n<Int.toNat ((n:Int) - 0)+1+0:=oM
theorem nc(L:List Int):∀(xs:List aE)(i:Int)(y:aE),y∈rmI L i xs→∃x∈xs,y=mvI L x
 |[],_,y,h=>by cases h
 |x::xs,i,y,h=>by
  rw[rmI] at h
  split at h
  ·obtain⟨z,h1,h2⟩:=nc L xs (i+1) y h
   exact⟨z,List.mem_cons_of_mem _ h1,h2⟩
  ·rcases List.mem_cons.1 h with h|h
   ·exact⟨x,List.mem_cons_self,h⟩
   ·obtain⟨z,h1,h2⟩:=nc L xs (i+1) y h
    exact⟨z,List.mem_cons_of_mem _ h1,h2⟩
theorem Sz.rm{t:af}(hs:Sz t)(L:List Int):Sz (rmT L t):=
 ⟨λy hy=>by
  obtain⟨x,hx,e⟩:=nc L t.insns 0 y hy
  subst e
  exact hs.ops x hx,hs.inits,hs.sets,hs.lists,hs.prots,by
  show((t.checks.filter _).map _).length<_
  rw[List.length_map]
  have:=List.length_filter_le (λc:bM=> !decide (c.at_∈L)) t.checks
  have:=hs.checks
  omega⟩
abbrev yC:af:=af.mk [] [] [] [] [] [] [] 0 [] [] []
theorem f22_eq(t:af)(L:List Int)(hs:Sz t)(hm:MayB t=true)(hp:L.Pairwise (·<·))(hc:∀x∈L,chk t x=true)(h0:L.length≤100000):f22 t L=some (bif MayB (rmT L t) then(rmT L t,0) else(yC,230)):=by
 have hb:=Bd.of hs hm
 have hn:=hb.n
 have hl:L.length<2305843009213693952:=oM
 have z0:∀{α:Type}(f:α→α)(r:List α),dW f r 0=r:=λf r=>by unfold dW;simp
 have s1:=λK=>tW L h0 K _ 0 (Nat.zero_le _) (jZ L.length)
 have s2:=λK=>tU t L hp hc h0 K _ 0 (Nat.zero_le _) (jZ L.length)
 have s3:=λK=>tT t L hp hl oM hb.plI K _ 0 [] (Nat.zero_le _) (jZ t.insns.length) (Nat.zero_le _)
 have s4:=λK=>tR t L hp hl (by have:=hb.handlers;omega) hb.plH K _ 0 [] (Nat.zero_le _) (jZ t.handlers.length) (Nat.zero_le _)
 have s5:=λK=>xd t L hp hl (by have:=hb.loops;omega) hb.plL K _ 0 [] (Nat.zero_le _) (jZ t.loops.length) (Nat.zero_le _)
 have s6:=λK=>tO t L hp hl (by have:=hb.checks;omega) hb.plC K _ 0 [] (Nat.zero_le _) (jZ t.checks.length) (Nat.zero_le _)
 have s7:=λK=>tM L hp hl t.selects (by have:=hb.selects;omega) (λx hx=>by have:=hb.alts x hx;omega) hb.plA hb.plE K _ 0 (Nat.zero_le _) (jZ t.selects.length)
 have s9:=λK=>xb L hp hl t.tasks (by have:=hb.tasks;omega) hb.plK K _ 0 (Nat.zero_le _) (jZ t.tasks.length)
 rw[z0] at s7 s9
 simp only[List.nil_append,List.drop_zero] at s3 s4 s5 s6
 rw[show((0:Nat):Int)=0 from rfl] at s1 s2 s3 s4 s5 s6 s7 s9
 rw[List.take_zero] at s1
 have sort:f147 L=some L:=by
  unfold f147
  rw[bZ _ (dcT oM)]
  congr 1
  refine List.mergeSort_of_pairwise ?_
  exact hp.imp λh=>dcT oM
 unfold f22
 rw[f10_eq t hs,bnS,hm,Bool.not_true,cdF]
 simp only[dD]
 rw[s1,sort,bnS,s2,s3,s4,s5,s6]
 rw[f65n,bZ _ (jr dC (by have:=hb.selects;simp only[List.length_nil];omega)),bnS,f66n,bZ _ (jr dC (by have:=hb.tasks;simp only[List.length_nil];omega)),bnS,s7,s9]
 refine(congrArg (λo=>Option.bind o _) (f10_eq (rmT L t) (hs.rm L))).trans ?_
 rw[bnS]
 cases MayB (rmT L t)<;>rfl
end Go.Proofs.YtejcfgjpdocaoaaGreatDoor
set_option maxRecDepth 10000
namespace Go.Proofs.YtejcfgjpdocaoaaGreatDoor
open Go Go.Sk Go.Tw
abbrev Byt(l:List Int):Prop:=∀x∈l,0≤x∧x<256
def Ext(k:Nat)(o:List Int→Option (List Int)):Prop:=∀l,Byt l→l.length+k≤1000000000→∃r,o l=some r∧Byt r∧r.length≤l.length+k
theorem Ext.bind{a b:Nat}{f g:List Int→Option (List Int)}(h1:Ext a f)(h2:Ext b g):Ext (a+b) (λl=>Option.bind (f l) g):=λl hl hk=>by
 obtain⟨r,e1,e2,e3⟩:=h1 l hl oM
 obtain⟨r',e4,e5,e6⟩:=h2 r e2 oM
 exact⟨r',by show Option.bind (f l) g=_;rw[e1,bnS,e4],e5,oM⟩
theorem Ext.mono{a b:Nat}{f:List Int→Option (List Int)}(h:Ext a f)(hab:a≤b):Ext b f:=λl hl hk=>by
 obtain⟨r,e1,e2,e3⟩:=h l hl oM
 exact⟨r,e1,e2,oM⟩
theorem Ext.some:Ext 0 (λl=>some l):=λl hl _=>⟨l,rfl,hl,Nat.le_refl _⟩
theorem bapp{n:Nat}{L M:List Int}(hn:n≤64)(hl:L.length+M.length≤1000000000):cq n L M=true:=wN oM oM
theorem bu8(x:Int):0≤IntKind.u8.wrap x∧IntKind.u8.wrap x<256:=by
 simp only[IntKind.wrap,IntKind.bits,IntKind.signed]
 simp
 omega
theorem Byt.app{l m:List Int}(h:Byt l)(k:Byt m):Byt (l++m):=λx hx=>(List.mem_append.1 hx).elim (h x) (k x)
theorem f175_l1_eq(K:List Int→Option (List Int)):∀(n i:Nat)(u:Int)(lw:List Int),i≤8→8<n+i→lw.length=i→Byt lw→∃r,f175_l1 K n u (i:Int) lw=K r∧Byt r∧r.length=8
 |0,i,u,lw,_,h,_,_=>oM
 |n+1,i,u,lw,hi,hn,hl,hb=>by
  rw[f175_l1]
  by_cases hlt:i<8
  ·rw[dcT (show(i:Int)<8 by omega),cdT,bZ _ (bapp dC (by simp only[List.length_singleton];omega)),tw1 oM]
   exact f175_l1_eq K n (i+1) _ _ oM oM (by simp[hl]) (hb.app λx hx=>by rw[List.mem_singleton] at hx;subst hx;exact bu8 _)
  ·rw[dcF (show¬(i:Int)<8 by omega),cdF]
   exact⟨lw,rfl,hb,oM⟩
theorem f175_eq(v:Int):∃r,f175 v=some r∧Byt r∧r.length=8:=by
 unfold f175
 obtain⟨F,hF⟩:∃F:Nat,F=9223372036854775808:=⟨_,rfl⟩
 rw[dD,←hF]
 exact f175_l1_eq some F 0 _ [] oM oM rfl (λx hx=>by cases hx)
theorem jl(v:Int):Ext 8 (λl=>f143 l v):=λl hl hk=>by
 obtain⟨r,e1,e2,e3⟩:=f175_eq v
 refine⟨l++r,?_,hl.app e2,by simp[e3]⟩
 show f143 l v=_
 unfold f143
 rw[e1,bnS,bZ _ (bapp dC oM)]
theorem w8(F:Nat→Int→List Int→Option (List Int))(len:Nat)(hlen:len≤100000)(b kK:Nat)(K:List Int→Option (List Int))(hK:Ext kK K)(hend:∀n lw,F (n+1) (len:Int) lw=K lw)
  (hstep:∀(n i:Nat),i<len→∀kk,Ext kk (F n ((i+1:Nat):Int))→Ext (b+kk) (F (n+1) (i:Int))):∀(n i:Nat),i≤len→len<n+i→Ext (b*(len - i)+kK) (F n (i:Int))
 |0,i,_,h=>oM
 |n+1,i,hi,hn=>by
  by_cases hlt:i<len
  ·refine(hstep n i hlt _ (w8 F len hlen b kK K hK hend hstep n (i+1) oM oM)).mono ?_
   have:len - i=(len - (i+1))+1:=oM
   rw[this,Nat.mul_succ]
   omega
  ·have e:i=len:=oM
   subst e
   intro l hl hk
   obtain⟨r,e1,e2,e3⟩:=hK l hl oM
   exact⟨r,by rw[hend];exact e1,e2,oM⟩
theorem du(F:Nat→Int→List Int→Option (List Int))(len:Nat)(hlen:len≤100000)(b kK:Nat)(K:List Int→Option (List Int))(hK:Ext kK K)(hend:∀n lw,F (n+1) (len:Int) lw=K lw)
  (hstep:∀(n i:Nat),i<len→∀kk,Ext kk (F n ((i+1:Nat):Int))→Ext (b+kk) (F (n+1) (i:Int)))(n:Nat)(hn:n=9223372036854775808):Ext (b*len+kK) (F n 0):=
 w8 F len hlen b kK K hK hend hstep n 0 (Nat.zero_le _) oM
theorem iH(n:Nat):decide ((n:Int)<(n:Int))=false:=dcF oM
theorem dO(xs:List Int)(h:xs.length≤100000):Ext (8*xs.length) (λl=>f176 l xs):=by
 unfold f176
 obtain⟨F,hF⟩:∃F:Nat,F=9223372036854775808:=⟨_,rfl⟩
 rw[←hF]
 refine(du (f176_l1 xs) xs.length h 8 0 some Ext.some (λn lw=>by rw[f176_l1,iH,cdF]) (λn i hi kk hk=>?_) F hF).mono oM
 intro l hl hb
 rw[f176_l1,tlt hi,cdT,di hi,bnS,tw1 oM]
 exact(jl _).bind hk l hl hb
theorem E177(b:Bool):Ext 8 (λl=>f177 l b):=by
 unfold f177
 cases b
 ·exact((jl 0).bind Ext.some).mono oM
 ·exact((jl 1).bind Ext.some).mono oM
theorem wY(xs:List Int)(h:xs.length≤100000):Ext (8+8*xs.length) (λl=>f178 l xs):=by
 unfold f178
 exact((dO [(xs.length:Int)] sM).bind ((dO xs h).bind Ext.some)).mono sM
theorem qX(rec:Int→ap→Bool×Int)(g:List Int→ap→Option (List Int))(hg:∀left e,0≤left→left≤256→(rec left e).1=true→0≤(rec left e).2∧(rec left e).2≤left∧Ext (72*(left - (rec left e).2).toNat) λl=>g l e)(l0:List Int)(e:ap)(hle:e.l.length≤2):
  ∀(n i:Nat)(left:Int),i≤e.l.length→e.l.length<n+i→0≤left→left≤256→(exL rec (e.l.drop i) left).1=true→(exL rec (e.l.drop i) left).2≤left∧0≤(exL rec (e.l.drop i) left).2∧Ext (72*(left - (exL rec (e.l.drop i) left).2).toNat) (f179s_l1 g l0 e n (i:Int))
 |0,i,left,_,h,_,_,_=>oM
 |n+1,i,left,hi,hn,hl0,hleft,hok=>by
  by_cases hlt:i<e.l.length
  ·rw[List.drop_eq_getElem_cons hlt,exL] at hok⊢
   cases h1:(rec left e.l[i]).1 with
   |false=>simp only[h1,cdF] at hok;cases hok
   |true=>
    simp only[h1,cdT] at hok⊢
    obtain⟨g1,g2,g3⟩:=hg left e.l[i] hl0 hleft h1
    obtain⟨i1,i2,i3⟩:=qX rec g hg l0 e hle n (i+1) (rec left e.l[i]).2 oM oM g1 oM hok
    refine⟨oM,i2,?_⟩
    intro l hl hb
    rw[f179s_l1,tlt hlt,cdT,di hlt,bnS,tw1 oM]
    refine((g3.bind i3).mono ?_) l hl hb
    omega
  ·rw[List.drop_eq_nil_of_le oM,exL] at hok⊢
   refine⟨Int.le_refl _,hl0,?_⟩
   intro l hl hb
   refine⟨l,?_,hl,oM⟩
   rw[f179s_l1,ko hlt,cdF]
theorem uj(os:List Obj)(ent:Int):∀(n:Nat)(deep left:Int)(e:ap),0≤left→left≤256→(exF os ent n deep left e).1=true→0≤(exF os ent n deep left e).2∧(exF os ent n deep left e).2≤left∧Ext (72*(left - (exF os ent n deep left e).2).toNat) (λl=>f179 n l e)
 |0,deep,left,e,_,_,h=>by rw[exF] at h;cases h
 |n+1,deep,left,e,h00,hl,h=>by
  rw[exF] at h⊢
  cases hc:(decide (IntKind.i64.wrap (left - 1)<0)||decide (deep>64))||cL os ent e with
  |true=>simp only[hc,cdT] at h;cases h
  |false=>
   simp only[hc,cdF] at h⊢
   simp only[Bool.or_eq_false_iff,decide_eq_false_iff_not] at hc
   obtain⟨⟨hw,_⟩,hs⟩:=hc
   have hw2:IntKind.i64.wrap (left - 1)=left - 1∧0≤left - 1:=by
    rw[mc oM oM] at hw⊢
    exact⟨rfl,oM⟩
   rw[hw2.1] at h⊢
   have hparts:e.l.length≤2:=by
    unfold cL at hs
    simp only[Bool.or_eq_false_iff,Bool.not_eq_false',decide_eq_true_eq] at hs
    have:=kT os ent e
    omega
   obtain⟨F,hF⟩:∃F:Nat,F=9223372036854775808:=⟨_,rfl⟩
   have key:=λl0=>qX (exF os ent n (deep+1)) (f179 n) (λlf x h0 h1 h2=>uj os ent n (deep+1) lf x h0 h1 h2) l0 e hparts F 0 (left - 1) (Nat.zero_le _) oM hw2.2 oM (by rw[List.drop_zero];exact h)
   rw[List.drop_zero] at key
   have k1:=(key []).1
   have k2:=(key []).2.1
   refine⟨k2,oM,?_⟩
   intro l hb hk
   show∃r,f179s (f179 n) l e=some r∧_
   unfold f179s
   rw[←hF]
   refine(((dO [(IntKind.i64.wrap e.kind),(IntKind.i64.wrap e.op)] sM).bind ((jl e.n).bind ((dO [e.o,e.off,e.len] sM).bind ((jl e.lo).bind ((jl e.hi).bind ((dO [(List.length e.l:Int)] sM).bind (key l).2.2)))))).mono ?_) l hb hk
   simp only[List.length_cons,List.length_nil]
   omega
theorem wL{t:af}{ent:Int}{b:ap}(h:jd t ent b=true):Ext 18432 (λl=>f179 66 l b):=by
 obtain⟨h1,h2,h3⟩:=uj t.objs ent 66 1 256 b oM oM h
 exact h3.mono oM
theorem E144(t:af)(hb:Bd t):Ext 6000000 (λl=>f144 l t):=by
 obtain⟨F,hF⟩:∃F:Nat,F=9223372036854775808:=⟨_,rfl⟩
 have hn:=hb.n
 have e6:Ext (264*t.lists.length+0) (f144_l6 t F 0):=du (f144_l6 t) t.lists.length (by have:=hb.lists;omega) 264 0 some Ext.some (λn lw=>by rw[f144_l6,iH,cdF]) (λn i hi kk hk=>by
  intro l hl hbd
  have:=hb.list _ (List.getElem_mem hi)
  have hz:=hb.lists
  rw[f144_l6,tlt hi,cdT,di hi,bnS,tw1 oM]
  exact(((wY _ oM).bind hk).mono oM) l hl hbd) F hF
 have e5:∀(x:aZ),x.alts.length≤16→∀kK K,Ext kK K→Ext (40*x.alts.length+kK) (f144_l5 x K F 0):=λx hx kK K hK=>du (f144_l5 x K) x.alts.length oM 40 kK K hK (λn lw=>by rw[f144_l5,iH,cdF]) (λn i hi kk hk=>by
  intro l hl hbd
  rw[f144_l5,tlt hi,cdT,di hi,bnS,tw1 oM]
  exact((dO _ sM).bind hk) l hl hbd) F hF
 have e4:∀kK K,Ext kK K→Ext (664*t.selects.length+kK) (f144_l4 t K F 0):=λkK K hK=>du (f144_l4 t K) t.selects.length (by have:=hb.selects;omega) 664 kK K hK (λn lw=>by rw[f144_l4,iH,cdF]) (λn i hi kk hk=>by
  intro l hl hbd
  have ha:=hb.alts _ (List.getElem_mem hi)
  have hz:=hb.selects
  rw[f144_l4,tlt hi,cdT,dD,di hi,bnS,tw1 oM,←hF]
  refine(((dO [(List.length t.selects[i].alts:Int)] sM).bind (e5 t.selects[i] ha _ (λlw290=>Option.bind (f176 lw290 [t.selects[i].obj,t.selects[i].else_]) (λr304=>f144_l4 t K n ((i+1:Nat):Int) r304)) ((dO [t.selects[i].obj,t.selects[i].else_] sM).bind hk))).mono ?_) l hl hbd
  simp only[List.length_cons,List.length_nil]
  omega) F hF
 have e3:∀kK K,Ext kK K→Ext (24*t.loops.length+kK) (f144_l3 t K F 0):=λkK K hK=>du (f144_l3 t K) t.loops.length (by have:=hb.loops;omega) 24 kK K hK (λn lw=>by rw[f144_l3,iH,cdF]) (λn i hi kk hk=>by
  intro l hl hbd
  have hz:=hb.loops
  rw[f144_l3,tlt hi,cdT,di hi,bnS,bnS,tw1 oM]
  refine(((dO _ sM).bind ((jl _).bind hk)).mono ?_) l hl hbd
  simp only[List.length_cons,List.length_nil]
  omega) F hF
 have e2:∀kK K,Ext kK K→Ext (32*t.handlers.length+kK) (f144_l2 t K F 0):=λkK K hK=>du (f144_l2 t K) t.handlers.length (by have:=hb.handlers;omega) 32 kK K hK (λn lw=>by rw[f144_l2,iH,cdF]) (λn i hi kk hk=>by
  intro l hl hbd
  have hz:=hb.handlers
  rw[f144_l2,tlt hi,cdT,di hi,bnS,bnS,bnS,tw1 oM]
  refine(((dO _ sM).bind ((E177 _).bind hk)).mono ?_) l hl hbd
  simp only[List.length_cons,List.length_nil]
  omega) F hF
 have e1:∀kK K,Ext kK K→Ext (56*t.insns.length+kK) (f144_l1 t K F 0):=λkK K hK=>du (f144_l1 t K) t.insns.length oM 56 kK K hK (λn lw=>by rw[f144_l1,iH,cdF]) (λn i hi kk hk=>by
  intro l hl hbd
  rw[f144_l1,tlt hi,cdT,di hi,bnS,tw1 oM]
  refine(((dO _ sM).bind ((jl _).bind ((jl _).bind ((dO _ sM).bind hk)))).mono ?_) l hl hbd
  simp only[List.length_cons,List.length_nil]
  omega) F hF
 unfold f144
 rw[←hF]
 simp only[dD]
 refine((dO _ sM).bind (e1 _ _ ((dO _ sM).bind (e2 _ _ ((dO _ sM).bind (e3 _ _ ((dO _ sM).bind (e4 _ _ ((dO _ sM).bind e6))))))))).mono ?_
 have:=hb.handlers
 have:=hb.loops
 have:=hb.selects
 have:=hb.lists
 simp only[List.length_cons,List.length_nil]
 omega
section
variable(t:af)(hb:Bd t)(F:Nat)(hF:F=9223372036854775808)
include hb hF
theorem g7:Ext (16*t.checks.length+0) (f145_l7 t F 0):=du (f145_l7 t) t.checks.length (by have:=hb.checks;omega) 16 0 some Ext.some (λn lw=>by rw[f145_l7,iH,cdF]) (λn i hi kk hk=>by
  intro l hl hbd
  have hz:=hb.checks
  rw[f145_l7,tlt hi,cdT,di hi,bnS,bnS,tw1 oM]
  exact((dO _ sM).bind hk) l hl hbd) F hF
theorem g6(u:Nat)(hu:u<t.prots.length)(kK:Nat)(K:List Int→Option (List Int))(hK:Ext kK K):Ext (18432*t.prots[u].barriers.length+kK) (f145_l6 t (u:Int) K F 0):=du (f145_l6 t (u:Int) K) t.prots[u].barriers.length (by have:=(hb.bars _ (List.getElem_mem hu)).1;omega) 18432 kK K hK (λn lw=>by rw[f145_l6,di hu,bnS,iH,cdF]) (λn i hi kk hk=>by
  intro l hl hbd
  have h2:=hb.bars _ (List.getElem_mem hu)
  rw[f145_l6,di hu,bnS,tlt hi,cdT,bnS,di hi,bnS,tw1 oM]
  exact((wL (h2.2 _ (List.getElem_mem hi))).bind hk) l hl hbd) F hF
theorem g5(kK:Nat)(K:List Int→Option (List Int))(hK:Ext kK K):Ext (147472*t.prots.length+kK) (f145_l5 t K F 0):=du (f145_l5 t K) t.prots.length (by have:=hb.prots;omega) 147472 kK K hK (λn lw=>by rw[f145_l5,iH,cdF]) (λn i hi kk hk=>by
  intro l hl hbd
  have hz:=hb.prots
  have h2:=(hb.bars _ (List.getElem_mem hi)).1
  rw[f145_l5,tlt hi,cdT,dD,di hi,bnS,bnS,tw1 oM,←hF]
  refine(((dO _ sM).bind (g6 t hb F hF i hi _ (λlw317=>f145_l5 t K n ((i+1:Nat):Int) lw317) hk)).mono ?_) l hl hbd
  simp only[List.length_cons,List.length_nil]
  omega) F hF
omit hb in
theorem g4(x:bX)(hx:x.entries.length≤8)(hf:∀e∈x.entries,e.ins.length≤8∧e.outs.length≤8)(kK:Nat)(K:List Int→Option (List Int))(hK:Ext kK K):Ext (144*x.entries.length+kK) (f145_l4 x K F 0):=du (f145_l4 x K) x.entries.length oM 144 kK K hK (λn lw=>by rw[f145_l4,iH,cdF]) (λn i hi kk hk=>by
  intro l hl hbd
  have h2:=hf _ (List.getElem_mem hi)
  rw[f145_l4,tlt hi,cdT,di hi,bnS,tw1 oM]
  simp only[bnS]
  exact(((wY _ oM).bind ((wY _ oM).bind hk)).mono oM) l hl hbd) F hF
omit hb in
theorem g3s(K:List Int→Option (List Int))(n:Nat)(i:Int)(x:bX)(hx:x.entries.length≤8)(hf:∀e∈x.entries,e.ins.length≤8∧e.outs.length≤8)(kk:Nat)(hk:Ext kk (f145_l3 t K n i)):
  Ext (1184+kk) (λl=>Option.bind (f176 l [x.prio,x.at_,(List.length x.entries:Int)]) λr=>f145_l4 x (λlw=>Option.bind (f143 lw x.deadline) λr=>f145_l3 t K n i r) F 0 r):=by
 have e1:=(jl x.deadline).bind hk
 have e2:=g4 F hF x hx hf _ _ e1
 have e3:=(dO [x.prio,x.at_,(List.length x.entries:Int)] sM).bind e2
 refine e3.mono ?_
 simp only[List.length_cons,List.length_nil]
 omega
theorem g3(kK:Nat)(K:List Int→Option (List Int))(hK:Ext kK K):Ext (1184*t.tasks.length+kK) (f145_l3 t K F 0):=du (f145_l3 t K) t.tasks.length (by have:=hb.tasks;omega) 1184 kK K hK (λn lw=>by rw[f145_l3,iH,cdF]) (λn i hi kk hk=>by
  intro l hl hbd
  have hz:=hb.tasks
  have hm:=List.getElem_mem hi
  have h2:=hb.entries _ hm
  obtain⟨r,e1,e2⟩:=g3s t F hF K n ((i+1:Nat):Int) t.tasks[i] h2 (hb.forms _ hm) kk hk l hl hbd
  refine⟨r,?_,e2⟩
  rw[f145_l3,tlt hi,cdT,dD,di hi,bnS,tw1 oM,←hF]
  exact e1) F hF
theorem g2(kK:Nat)(K:List Int→Option (List Int))(hK:Ext kK K):Ext (24*t.inits.length+kK) (f145_l2 t K F 0):=du (f145_l2 t K) t.inits.length (by have:=hb.inits;omega) 24 kK K hK (λn lw=>by rw[f145_l2,iH,cdF]) (λn i hi kk hk=>by
  intro l hl hbd
  have hz:=hb.inits
  rw[f145_l2,tlt hi,cdT,di hi,bnS,bnS,tw1 oM]
  refine(((dO _ sM).bind ((jl _).bind hk)).mono ?_) l hl hbd
  simp only[List.length_cons,List.length_nil]
  omega) F hF
theorem g1(kK:Nat)(K:List Int→Option (List Int))(hK:Ext kK K):Ext (32808*t.objs.length+kK) (f145_l1 t K F 0):=du (f145_l1 t K) t.objs.length (by have:=hb.objs;omega) 32808 kK K hK (λn lw=>by rw[f145_l1,iH,cdF]) (λn i hi kk hk=>by
  intro l hl hbd
  have hz:=hb.objs
  have h2:=hb.sets _ (List.getElem_mem hi)
  rw[f145_l1,tlt hi,cdT,di hi,bnS,tw1 oM]
  refine(((dO _ sM).bind ((jl _).bind ((jl _).bind ((E177 _).bind ((wY _ oM).bind hk))))).mono ?_) l hl hbd
  simp only[List.length_cons,List.length_nil]
  omega) F hF
end
theorem E145(t:af)(hb:Bd t)(N:Nat)(hN:N=150000000):Ext N (λl=>f145 l t):=by
 obtain⟨F,hF⟩:∃F:Nat,F=9223372036854775808:=⟨_,rfl⟩
 unfold f145
 rw[←hF]
 simp only[dD]
 refine((dO _ sM).bind (g1 t hb F hF _ _ ((dO _ sM).bind (g2 t hb F hF _ _ ((dO _ sM).bind (g3 t hb F hF _ _ ((dO _ sM).bind (g5 t hb F hF _ _ ((dO _ sM).bind (g7 t hb F hF)))))))))).mono ?_
 have:=hb.objs
 have:=hb.inits
 have:=hb.tasks
 have:=hb.prots
 have:=hb.checks
 simp only[List.length_cons,List.length_nil]
 omega
theorem f58_eq(t:af)(hb:Bd t):∃r,f58 t=some r∧Byt r:=by
 unfold f58
 obtain⟨r,h1,h2,_⟩:=((jl 958023).bind ((E144 t hb).bind ((E145 t hb _ rfl).bind Ext.some))) [] (λx hx=>by cases hx) sM
 exact⟨r,h1,h2⟩
theorem f19_eq(t:af)(hb:Bd t):f19 t t=some true:=by
 obtain⟨r,h1,h2⟩:=f58_eq t hb
 have h3:o7 r=true:=by
  unfold o7
  rw[List.all_eq_true]
  intro x hx
  have:=h2 x hx
  rw[dcT this.1,dcT this.2];rfl
 unfold f19
 rw[h1,bnS,bZ _ h3,bnS,bZ _ h3]
 simp
end Go.Proofs.YtejcfgjpdocaoaaGreatDoor
set_option maxRecDepth 10000
namespace Go.Proofs.YtejcfgjpdocaoaaGreatDoor
open Go Go.Sk Go.Tw
def kpI(L:List Int):Int→List aE→List aE
 |_,[]=> []
 |i,x::xs=>if i∈L then kpI L (i+1) xs else x::kpI L (i+1) xs
theorem tl(L:List Int):∀(xs:List aE)(i:Int),rmI L i xs=(kpI L i xs).map (mvI L)
 |[],_=>rfl
 |x::xs,i=>by
  rw[rmI,kpI,tl L xs (i+1)]
  split<;>rfl
theorem nm(L:List Int):∀(xs ys:List aE)(i:Int),kpI L i (xs++ys)=kpI L i xs++kpI L (i+(xs.length:Int)) ys
 |[],ys,i=>by simp[kpI]
 |x::xs,ys,i=>by
  rw[List.cons_append,kpI,kpI,nm L xs ys (i+1)]
  have e:i+1+(xs.length:Int)=i+((x::xs).length:Int):=by simp;omega
  rw[e]
  split<;>rfl
theorem mD{L M:List Int}:∀(xs:List aE)(i:Int),(∀j,i≤j→j<i+(xs.length:Int)→(j∈L↔j∈M))→kpI L i xs=kpI M i xs
 |[],_,_=>rfl
 |x::xs,i,h=>by
  have e:=mD xs (i+1) λj h1 h2=>h j oM (by simp;omega)
  rw[kpI,kpI,e]
  have hi:=h i (Int.le_refl _) (by simp;omega)
  by_cases hm:i∈L
  ·rw[if_pos hm,if_pos (hi.1 hm)]
  ·rw[if_neg hm,if_neg (λh=>hm (hi.2 h))]
theorem tn{L:List Int}(hL:L.Pairwise (·<·)):∀(xs:List aE)(i:Int)(k:Nat)(h:k<xs.length),(i+k)∉L→∃j:Nat,(j:Int)=to L (i+k) - to L i∧(rmI L i xs)[j]? =some (mvI L xs[k])
 |[],_,k,h,_=>by simp at h
 |x::xs,i,0,h,hn=>by
  rw[Int.natCast_zero,Int.add_zero] at hn⊢
  refine⟨0,oM,?_⟩
  rw[rmI,if_neg hn];rfl
 |x::xs,i,k+1,h,hn=>by
  have e:i+((k+1:Nat):Int)=i+1+(k:Int):=by push_cast;omega
  rw[e] at hn⊢
  obtain⟨j,h1,h2⟩:=tn hL xs (i+1) k (by simpa using h) hn
  have hc:=oX hL i
  by_cases hi:i∈L
  ·rw[if_pos hi] at hc
   have:to L (i+1)=to L i:=by unfold to;omega
   refine⟨j,oM,?_⟩
   rw[rmI,if_pos hi];exact h2
  ·rw[if_neg hi] at hc
   have:to L (i+1)=to L i+1:=by unfold to;omega
   refine⟨j+1,by push_cast;omega,?_⟩
   rw[rmI,if_neg hi];exact h2
theorem yG{t:af}{A:List Int}(hA:A.Pairwise (·<·))(h0:∀x∈A,0≤x){a:Int}(hc:chk t a=true)(hn:a∉A):chk (rmT A t) (to A a)=true:=by
 obtain⟨x,hx,ho⟩:=o4 hc
 have hb:=fp hx
 obtain⟨k,rfl⟩:∃k:Nat,a=(k:Int):=⟨a.toNat,oM⟩
 have hk:k<t.insns.length:=oM
 obtain⟨j,h1,h2⟩:=tn hA t.insns 0 k hk (by rw[Int.zero_add];exact hn)
 have z:to A 0=0:=by unfold to;rw[dA h0];rfl
 rw[Int.zero_add,z,Int.sub_zero] at h1
 have hx2:t.insns[k]=x:=by rw[ax hk] at hx;exact inS hx
 rw[hx2] at h2
 have hj:j<(rmT A t).insns.length:=(giS.1 h2).1
 have h3:idx (rmT A t).insns (to A (k:Int))=some (mvI A x):=by
  rw[←h1,ax hj,←geG hj];exact h2
 unfold chk
 rw[h3]
 show(decide (x.op=27)||decide (x.op=28))=true
 simp only[Bool.or_eq_true,decide_eq_true_eq]
 exact ho
theorem eZ(a:Int):to [] a=a:=by unfold to;rw[kD];simp
theorem xK{t:af}(hb:Bd t):rmT [] t=t:=by
 have e1:∀(xs:List aE)(i:Int),rmI [] i xs=xs:=λxs=>by
  induction xs with
  |nil=>intro i;rfl
  |cons x xs ih=>
   intro i
   rw[rmI,if_neg sM,ih]
   congr 1
   unfold mvI
   rw[eZ]
   cases x
   simp
 have e2:(t.handlers.map (mvH [])).filter okH=t.handlers:=by
  have:t.handlers.map (mvH [])=t.handlers:=by
   refine(List.map_congr_left λx _=>?_).trans (List.map_id _)
   unfold mvH
   rw[eZ,eZ,eZ];rfl
  rw[this,List.filter_eq_self]
  intro x hx
  exact dcT (hb.okH x hx)
 have e3:t.loops.map (mvL [])=t.loops:=by
  refine(List.map_congr_left λx _=>?_).trans (List.map_id _)
  unfold mvL
  rw[eZ,eZ];rfl
 have e4:t.selects.map (mvS [])=t.selects:=by
  refine(List.map_congr_left λx _=>?_).trans (List.map_id _)
  unfold mvS
  rw[eZ]
  have:x.alts.map (mvA [])=x.alts:=by
   refine(List.map_congr_left λa _=>?_).trans (List.map_id _)
   unfold mvA
   rw[eZ];rfl
  rw[this]
  cases x
  simp
 have e5:t.tasks.map (mvK [])=t.tasks:=by
  refine(List.map_congr_left λx _=>?_).trans (List.map_id _)
  unfold mvK
  rw[eZ];rfl
 have e6:(t.checks.filter λc=> !decide (c.at_∈([]:List Int))).map (mvC [])=t.checks:=by
  rw[List.filter_eq_self.2 (by intro c _;simp)]
  refine(List.map_congr_left λx _=>?_).trans (List.map_id _)
  unfold mvC
  rw[eZ];rfl
 unfold rmT
 rw[e1,e2,e3,e4,e5,e6]
structure Inv(t:af)(i:Nat)(a b all:List Int)(left:List aE)(removed n:Int):Prop where
 rem:removed=(a.length:Int)
 n0:0≤n
 n1:n≤i
 both:∃B,Both a B all∧b=B.map (to a)∧∀x∈B,0≤x∧x<i∧chk t x=true
 la:∀x∈a,0≤x∧x<i∧chk t x=true
 lall:∀x∈all,0≤x∧x<i∧chk t x=true
 left:left=kpI all 0 (t.insns.take i)
theorem nE:∀(i:Nat)(L:List Int),L.Pairwise (·<·)→(∀x∈L,0≤x∧x<i)→L.length≤i:=λi L hp h=>by
 have:=lc i (L.map Int.toNat) (List.pairwise_map.2 (hp.imp_of_mem λ{x y} hx hy hl=>by
  have h1:=h x hx
  have h2:=h y hy
  omega)) (λx hx=>by
  obtain⟨y,hy,rfl⟩:=List.mem_map.1 hx
  have:=h y hy
  omega)
 rwa [List.length_map] at this
theorem nB{L:List Int}{i:Int}(h:∀x∈L,x<i):cnt L i=L.length:=by
 unfold Tw.cnt
 rw[List.countP_eq_length]
 intro x hx
 exact dcT (h x hx)
theorem ja(L M:List Int)(t:Int):cnt (L++M) t=cnt L t+cnt M t:=by
 unfold Tw.cnt
 exact List.countP_append
theorem wG(i t:Int):cnt [i] t=if i<t then 1 else 0:=by rw[eF,kD];omega
theorem kw{L:List Int}(h:L.Pairwise (·<·)){i:Int}(hl:∀x∈L,x<i):(L++ [i]).Pairwise (·<·):=by
 rw[List.pairwise_append]
 exact⟨h,sM,λx hx y hy=>by rw[List.mem_singleton] at hy;subst hy;exact hl x hx⟩
theorem cN{L:List Int}{i x:Int}:x∈L++ [i]↔x∈L∨x=i:=sM
section
variable{t:af}{i:Nat}{a b all:List Int}{left:List aE}{removed n:Int}(v:Inv t i a b all left removed n)
include v
theorem Inv.keep(hi:i<t.insns.length)(n':Int)(h0:0≤n')(h1:n'≤i+1):Inv t (i+1) a b all (left++ [t.insns[i]]) removed n':=by
 obtain⟨v1,v2,v3,⟨B,v4,v5,v6⟩,v7,v8,v9⟩:=v
 refine⟨v1,h0,by push_cast;omega,⟨B,v4,v5,λx hx=>?_⟩,λx hx=>?_,λx hx=>?_,?_⟩
 ·have:=v6 x hx;exact⟨this.1,by push_cast;omega,this.2.2⟩
 ·have:=v7 x hx;exact⟨this.1,by push_cast;omega,this.2.2⟩
 ·have:=v8 x hx;exact⟨this.1,by push_cast;omega,this.2.2⟩
 ·rw[v9,List.take_succ_eq_append_getElem hi,nm]
  congr 1
  rw[List.length_take,kpI,if_neg (λhm=>by have:=v8 _ hm;omega)]
  rfl
theorem Inv.leftA(hi:i<t.insns.length):left=kpI (all++ [(i:Int)]) 0 (t.insns.take (i+1)):=by
 rw[List.take_succ_eq_append_getElem hi,nm,v.left]
 have e:(0:Int)+((t.insns.take i).length:Int)=(i:Int):=by rw[List.length_take];omega
 rw[e,kpI,if_pos (cN.2 (.inr rfl)),kpI,List.append_nil]
 refine mD _ 0 λj h1 h2=>?_
 rw[List.length_take] at h2
 rw[cN]
 exact⟨.inl,λh=>h.resolve_right (λe=>by subst e;omega)⟩
theorem Inv.allS(hc:chk t (i:Int)=true):∀x∈all++ [(i:Int)],0≤x∧x<((i+1:Nat):Int)∧chk t x=true:=λx hx=>by
 rcases cN.1 hx with hx|rfl
 ·have:=v.lall x hx;exact⟨this.1,by push_cast;omega,this.2.2⟩
 ·exact⟨oM,by push_cast;omega,hc⟩
theorem Inv.one(hi:i<t.insns.length)(hc:chk t (i:Int)=true):Inv t (i+1) (a++ [(i:Int)]) b (all++ [(i:Int)]) left (removed+1) (n+1):=by
 have hl:=v.leftA hi
 have hs:=v.allS hc
 obtain⟨v1,v2,v3,⟨B,v4,v5,v6⟩,v7,v8,v9⟩:=v
 refine⟨by rw[v1];simp,oM,by push_cast;omega,⟨B,⟨kw v4.a λx hx=>(v7 x hx).2.1,v4.b,kw v4.all λx hx=>(v8 x hx).2.1,?_,?_,?_⟩,?_,λx hx=>?_⟩,λx hx=>?_,hs,hl⟩
 ·intro x hx hm
  rcases cN.1 hm with hm|rfl
  ·exact v4.dis x hx hm
  ·have:=v6 _ hx;omega
 ·intro x
  rw[cN,cN,v4.mem]
  constructor
  ·rintro((h|h)|h)
   ·exact .inl (.inl h)
   ·exact .inr h
   ·exact .inl (.inr h)
  ·rintro((h|h)|h)
   ·exact .inl (.inl h)
   ·exact .inr h
   ·exact .inl (.inr h)
 ·intro u
  rw[ja,ja,v4.cnt]
  omega
 ·rw[v5]
  refine List.map_congr_left λx hx=>?_
  have:=v6 x hx
  unfold to
  rw[ja,wG,if_neg oM]
  rfl
 ·have:=v6 x hx;exact⟨this.1,by push_cast;omega,this.2.2⟩
 ·rcases cN.1 hx with hx|rfl
  ·have:=v7 x hx;exact⟨this.1,by push_cast;omega,this.2.2⟩
  ·exact⟨oM,by push_cast;omega,hc⟩
theorem Inv.two(hi:i<t.insns.length)(hc:chk t (i:Int)=true):Inv t (i+1) a (b++ [(i:Int) - removed]) (all++ [(i:Int)]) left removed (n+1):=by
 have hl:=v.leftA hi
 have hs:=v.allS hc
 obtain⟨v1,v2,v3,⟨B,v4,v5,v6⟩,v7,v8,v9⟩:=v
 refine⟨v1,oM,by push_cast;omega,⟨B++ [(i:Int)],⟨v4.a,kw v4.b λx hx=>(v6 x hx).2.1,kw v4.all λx hx=>(v8 x hx).2.1,?_,?_,?_⟩,?_,λx hx=>?_⟩,λx hx=>?_,hs,hl⟩
 ·intro x hx hm
  rcases cN.1 hx with hx|rfl
  ·exact v4.dis x hx hm
  ·have:=v7 _ hm;omega
 ·intro x
  rw[cN,cN,v4.mem]
  constructor
  ·rintro((h|h)|h)
   ·exact .inl h
   ·exact .inr (.inl h)
   ·exact .inr (.inr h)
  ·rintro(h|(h|h))
   ·exact .inl (.inl h)
   ·exact .inl (.inr h)
   ·exact .inr h
 ·intro u
  rw[ja,ja,v4.cnt]
  omega
 ·rw[v5,List.map_append,List.map_singleton]
  congr 2
  unfold to
  rw[nB λx hx=>(v7 x hx).2.1,v1]
 ·rcases cN.1 hx with hx|rfl
  ·have:=v6 x hx;exact⟨this.1,by push_cast;omega,this.2.2⟩
  ·exact⟨oM,by push_cast;omega,hc⟩
 ·have:=v7 x hx;exact⟨this.1,by push_cast;omega,this.2.2⟩
theorem Inv.lens:a.length≤i∧b.length≤i∧all.length≤i:=by
 obtain⟨v1,v2,v3,⟨B,v4,v5,v6⟩,v7,v8,v9⟩:=v
 refine⟨nE i a v4.a λx hx=>⟨(v7 x hx).1,(v7 x hx).2.1⟩,?_,nE i all v4.all λx hx=>⟨(v8 x hx).1,(v8 x hx).2.1⟩⟩
 rw[v5,List.length_map]
 exact nE i B v4.b λx hx=>⟨(v6 x hx).1,(v6 x hx).2.1⟩
end
theorem nl(L:List Int):∀(xs:List aE)(i:Int),(kpI L i xs).length≤xs.length
 |[],_=>Nat.le_refl _
 |x::xs,i=>by
  rw[kpI]
  have:=nl L xs (i+1)
  split<;>simp<;>omega
theorem tshc(n:Int):shc (IntKind.u64.wrap n)=true:=by
 unfold shc
 refine dcT ?_
 simp only[IntKind.wrap,IntKind.bits,IntKind.signed]
 simp
 omega
theorem f7_l1_eq(t:af)(f s:Int)(K:List Int→List Int→List Int→List aE→Option Bool)(hl:t.insns.length≤65536)(r:Option Bool)
  (hK:∀a b all left removed n,Inv t t.insns.length a b all left removed n→K a b all left=r):
  ∀(m i:Nat)(n removed:Int)(a b all:List Int)(left:List aE),i≤t.insns.length→t.insns.length<m+i→Inv t i a b all left removed n→f7_l1 t f s K m n removed (i:Int) a b all left=r
 |0,i,_,_,_,_,_,_,_,h,_=>oM
 |m+1,i,n,removed,a,b,all,left,hi,hm,v=>by
  rw[f7_l1]
  have hn0:=v.n0
  have hn1:=v.n1
  obtain⟨l1,l2,l3⟩:=v.lens
  have l4:left.length≤i:=by
   rw[v.left]
   have:=nl all (t.insns.take i) 0
   rw[List.length_take] at this
   omega
  have hrem:=v.rem
  by_cases hlt:i<t.insns.length
  ·rw[tlt hlt,cdT]
   simp only[dD]
   rw[f21_eq,bnS]
   have step:=λn' removed' a' b' all' left' v'=>f7_l1_eq t f s K hl r hK m (i+1) n' removed' a' b' all' left' oM oM v'
   have keep:∀n',0≤n'→n'≤(i:Int)+1→(Option.bind (idx t.insns (i:Int)) λx269=>bB (cq 56 left [x269]) (f7_l1 t f s K m n' removed (IntKind.i64.wrap ((i:Int)+1)) a b all (left++ [x269])))=r:=λn' h0 h1=>by
    rw[di hlt,bnS,bZ _ (jr dC (by simp only[List.length_singleton];omega)),tw1 oM]
    exact step _ _ _ _ _ _ (v.keep hlt n' h0 h1)
   cases hc:chk t (i:Int) with
   |false=>
    rw[Bool.false_and,cdF,Bool.not_false,cdT]
    exact keep n hn0 oM
   |true=>
    rw[Bool.true_and]
    by_cases h64:n<64
    ·rw[dcT h64,cdT,bZ _ (tshc n),bZ _ (tshc n)]
     generalize decide ((IntKind.u64.wrap (BitVec.ofInt IntKind.u64.bits (Int.fdiv f (2^min (Int.toNat (IntKind.u64.wrap n)) IntKind.u64.bits))&&&BitVec.ofInt IntKind.u64.bits 1).toNat)=1)=one
     generalize decide ((IntKind.u64.wrap (BitVec.ofInt IntKind.u64.bits (Int.fdiv s (2^min (Int.toNat (IntKind.u64.wrap n)) IntKind.u64.bits))&&&BitVec.ofInt IntKind.u64.bits 1).toNat)=1)=two
     have wn:IntKind.i64.wrap (n+1)=n+1:=mc oM oM
     have wr:IntKind.i64.wrap (removed+1)=removed+1:=mc oM oM
     have wi:IntKind.i64.wrap ((i:Int) - removed)=(i:Int) - removed:=mc oM oM
     cases one with
     |true=>
      rw[cdT,bZ _ (jr dC (by simp only[List.length_singleton];omega)),Bool.true_or,cdT,bZ _ (jr dC (by simp only[List.length_singleton];omega)),Bool.not_true,cdF,tw1 oM,wn,wr]
      exact step _ _ _ _ _ _ (v.one hlt hc)
     |false=>
      cases two with
      |true=>
       rw[cdF,cdT,wi,bZ _ (jr dC (by simp only[List.length_singleton];omega)),Bool.or_true,cdT,bZ _ (jr dC (by simp only[List.length_singleton];omega)),Bool.not_true,cdF,tw1 oM,wn]
       exact step _ _ _ _ _ _ (v.two hlt hc)
      |false=>
       rw[cdF,cdF,Bool.or_false,cdF,Bool.not_false,cdT,wn]
       exact keep (n+1) oM oM
    ·rw[dcF h64,cdF,Bool.not_false,cdT]
     exact keep n hn0 oM
  ·rw[ko hlt,cdF]
   have e:i=t.insns.length:=oM
   subst e
   exact hK _ _ _ _ _ _ v
theorem f23_mv(L:List Int)(x:aE):f23 x (mvI L x)=true:=by
 unfold f23
 show((decide (x.op=x.op))&&((decide (x.d=x.d))&&((decide (x.a=x.a))&&((decide (x.b=x.b))&&((decide (x.n=x.n))&&((decide (x.m=x.m))&&((decide (0=0))&&true)))))))=true
 simp
theorem f7_l2_eq(lw:List aE)(L:List Int)(z:af×Int)(hz:z.1.insns=lw.map (mvI L))(hl:lw.length≤65536)(K:Unit→Option Bool):∀(n i:Nat),i≤lw.length→lw.length<n+i→f7_l2 lw z K n (i:Int)=K ()
 |0,i,_,h=>oM
 |n+1,i,hi,hn=>by
  rw[f7_l2]
  by_cases hlt:i<lw.length
  ·have h2:i<z.1.insns.length:=by rw[hz,List.length_map];exact hlt
   have e:z.1.insns[i]=mvI L lw[i]:=by simp[hz]
   rw[tlt hlt,cdT,di hlt,bnS,di h2,bnS,e,f23_mv,Bool.not_true,cdF,tw1 oM]
   exact f7_l2_eq lw L z hz hl K n (i+1) oM oM
  ·rw[ko hlt,cdF]
theorem rW(t:af)(hs:Sz t)(ha:SzA t)(hz:SzL t)(f s:Int):f7 t f s=some true:=by
 obtain⟨big,h8⟩:=f8_tot t hz
 unfold f7
 rw[h8,bnS]
 cases big with
 |true=>rfl
 |false=>
  rw[cdF,f11_eq t hs ha,bnS,bnS]
  cases hm:MayB t with
  |false=>rfl
  |true=>
   rw[Bool.not_true,cdF,dD]
   have hb:=Bd.of hs hm
   have hn:=hb.n
   obtain⟨F,hF⟩:∃F:Nat,F=9223372036854775808:=⟨_,rfl⟩
   rw[←hF]
   refine f7_l1_eq t f s _ hn.2 (some true) (λa b all left removed n v=>?_) F 0 0 0 [] [] [] [] (Nat.zero_le _) oM ⟨rfl,Int.le_refl _,Int.le_refl _,⟨[],⟨sM,sM,sM,sM,sM,λt=>rfl⟩,rfl,sM⟩,sM,sM,rfl⟩
   obtain⟨l1,l2,l3⟩:=v.lens
   obtain⟨v1,v2,v3,⟨B,v4,v5,v6⟩,v7,v8,v9⟩:=v
   rw[List.take_length] at v9
   have hA:=f22_eq t a hs hm v4.a (λx hx=>(v7 x hx).2.2) oM
   have hAll:=f22_eq t all hs hm v4.all (λx hx=>(v8 x hx).2.2) oM
   rw[hA,bnS,hAll,bnS]
   cases mA:MayB (rmT a t) with
   |false=>
    cases MayB (rmT all t)<;>rfl
   |true=>
    cases mAll:MayB (rmT all t) with
    |false=>rfl
    |true=>
     simp only[cdT]
     have hsA:=hs.rm a
     have hsAll:=hs.rm all
     have hb2:=f22_eq (rmT a t) b hsA mA (by rw[v5];exact v4.asc) (λx hx=>by
      rw[v5] at hx
      obtain⟨y,hy,rfl⟩:=List.mem_map.1 hx
      exact yG v4.a (λx hx=>(v7 x hx).1) (v6 y hy).2.2 (v4.dis y hy)) oM
     have e2:rmT b (rmT a t)=rmT all t:=by rw[v5];exact rmT2 v4 (λx hx=>(v7 x hx).1) t
     rw[e2,mAll,cdT] at hb2
     rw[hb2,bnS]
     have hbd:=Bd.of hsAll mAll
     have hins:(rmT all t).insns=left.map (mvI all):=by rw[v9];exact tl all t.insns 0
     have hlen:((rmT all t).insns.length:Int)=(left.length:Int):=by rw[hins,List.length_map]
     have hll:left.length≤65536:=by
      rw[v9]
      have:=nl all t.insns 0
      omega
     have hsame:(Option.bind (bif (decide ((List.length all:Int)=0)) then(Option.bind (f19 (rmT all t) t) λr280=>some (!r280)) else some false) λb279=>some b279)=some false:=by
      by_cases h0:(List.length all:Int)=0
      ·have:all=[]:=List.eq_nil_of_length_eq_zero oM
       subst this
       rw[dcT sM,cdT,xK hb,f19_eq t hb];rfl
      ·rw[dcF h0];rfl
     show(bif ((!decide ((0:Int)=0))||(!decide ((0:Int)=0))) then _ else _)=_
     rw[dcT (rfl:(0:Int)=0),Bool.not_true,Bool.or_self,cdF]
     dsimp only
     rw[f19_eq _ hbd,bnS,dcT hlen]
     simp only[decide_true,Bool.not_true,cdF,bnS,Bool.or_false]
     rw[hsame,bnS,cdF,dD]
     refine(f7_l2_eq left all (rmT all t,0) hins hll _ F 0 (Nat.zero_le _) oM).trans ?_
     rw[f10_eq _ hsAll,bnS,mAll]
     rfl
end Go.Proofs.YtejcfgjpdocaoaaGreatDoor
