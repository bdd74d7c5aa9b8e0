/- Part of the proof. -/
import Derived.KernelRfl
import Derived.Test.YtejcfgjpdocaoaaGreatDoorO
set_option linter.unusedVariables false
set_option linter.unusedSimpArgs false
set_option linter.unusedSectionVars false
set_option linter.unnecessarySimpa false
set_option maxRecDepth 10000
namespace Go.Proofs.YtejcfgjpdocaoaaGreatDoor
open Go Go.Sk
theorem w64{x:Int}(h1: -9223372036854775808≤x)(h2:x≤9223372036854775807):IntKind.i64.wrap x=x:=by
 rw[IntKind.wrap_i64];omega
theorem am{α β:Sort _}(k:α)(f:α→β):ap k f=f k:=rfl
theorem au{α:Type}{L:List α}{i:Nat}(h:i<L.length):idx L (i:Int)=some L[i]:=by
 unfold idx
 rw[dcT (Int.natCast_nonneg i)]
 simp[h]
theorem bt{α:Type}{L:List α}{i:Int}(h:¬(0≤i∧i<L.length)):idx L i=none:=by
 unfold idx
 by_cases h0:0≤i
 ·rw[dcT h0,cdT]
  exact List.getElem?_eq_none oM
 ·rw[dcF h0,cdF]
theorem it{α:Type}{L:List α}{i:Int}{x:α}(h:idx L i=some x):0≤i∧i<L.length:=⟨ai h,jY h⟩
theorem aL{α:Type}{L:List α}{i:Int}(h:0≤i∧i<L.length):∃x,idx L i=some x∧x∈L:=by
 obtain⟨n,rfl⟩:=Int.eq_ofNat_of_zero_le h.1
 exact⟨_,au (show n<L.length by omega),List.getElem_mem _⟩
theorem gY{α:Type}{L:List α}{i:Int}{x:α}(h:idx L i=some x):x∈L:=List.mem_of_getElem? (eG h)
theorem ay{α:Type}{L:List α}{i:Nat}(h:i<L.length):L.drop i=L[i]::L.drop (i+1):=List.drop_eq_getElem_cons h
theorem k9{α:Type}{c:Bool}(o:Option α)(h:c=true):iv c o=o:=by rw[h];rfl
theorem nY{κ α:Type}[DecidableEq κ](m:List (κ×α))(k:κ)(v:α)(x:κ):bT (ba m k v) x=if k=x then some v else bT m x:=by
 induction m with
 |nil=>simp[ba,bT]
 |cons p r ih=>
  unfold ba
  by_cases h:p.1=k
  ·rw[if_pos h]
   unfold bT
   by_cases hk:k=x
   ·simp[hk]
   ·simp[hk,h]
  ·rw[if_neg h]
   unfold bT
   rw[ih]
   by_cases hk:p.1=x
   ·have:¬k=x:=λe=>h (by rw[hk,e])
    simp[hk,this]
   ·simp[hk]
def inM{κ:Type}[DecidableEq κ](m:List (κ×Bool))(x:κ):Bool:=Option.getD (bT m x) false
theorem jX{κ:Type}[DecidableEq κ](m:List (κ×Bool))(k x:κ):inM (ba m k true) x=(decide (k=x)||inM m x):=by
 unfold inM
 rw[nY]
 by_cases h:k=x<;>simp[h]
theorem f151_l1_eq(L:List bd)(cb:bd→Option Bool)(p:bd→Bool)(hl:L.length<9223372036854775808):∀(n i:Nat)(z:Int),z=(i:Int)→i≤L.length→L.length<n+i→(∀x∈L.drop i,cb x=some (p x))→∃r,f151_l1 L cb (λ_=>some (-1)) n z=some r∧decide (r≥0)=(L.drop i).any p
 |0,i,z,_,_,h,_=>oM
 |n+1,i,z,hz,hi,h,hp=>by
  subst hz
  rw[f151_l1]
  by_cases hh:i<L.length
  ·rw[ay hh] at hp⊢
   rw[dcT (by omega:(i:Int)<(L.length:Int)),cdT,au hh,bnS,hp _ List.mem_cons_self,bnS,List.any_cons]
   cases hc:p L[i]
   ·rw[cdF,w64 oM oM,Bool.false_or]
    exact f151_l1_eq L cb p hl n (i+1) _ (by push_cast;rfl) oM oM (λx hx=>hp x (List.mem_cons_of_mem _ hx))
   ·exact⟨_,rfl,by rw[Bool.true_or];exact dcT oM⟩
  ·rw[dcF (by omega:¬(i:Int)<(L.length:Int)),cdF,List.drop_eq_nil_of_le oM]
   exact⟨_,rfl,rfl⟩
theorem f151_eq(L:List bd)(cb:bd→Option Bool)(p:bd→Bool)(hl:L.length<9223372036854775808)(hp:∀x∈L,cb x=some (p x)):∃r,f151 L cb=some r∧decide (r≥0)=L.any p:=by
 unfold f151
 rw[am]
 exact f151_l1_eq L cb p hl _ 0 0 rfl (Nat.zero_le _) oM hp
theorem f90_eq(L:List bd)(cb:bd→Option Bool)(p:bd→Bool)(hl:L.length<9223372036854775808)(hp:∀x∈L,cb x=some (p x)):f90 L cb=some (L.any p):=by
 obtain⟨r,h1,h2⟩:=f151_eq L cb p hl hp
 unfold f90
 rw[h1,bnS,h2]
theorem f163_l1_eq(L:List Int)(cb:Int→Option Bool)(p:Int→Bool)(hl:L.length<9223372036854775808):∀(n i:Nat)(z:Int),z=(i:Int)→i≤L.length→L.length<n+i→(∀x∈L.drop i,cb x=some (p x))→∃r,f163_l1 L cb (λ_=>some (-1)) n z=some r∧decide (r≥0)=(L.drop i).any p
 |0,i,z,_,_,h,_=>oM
 |n+1,i,z,hz,hi,h,hp=>by
  subst hz
  rw[f163_l1]
  by_cases hh:i<L.length
  ·rw[ay hh] at hp⊢
   rw[dcT (by omega:(i:Int)<(L.length:Int)),cdT,au hh,bnS,hp _ List.mem_cons_self,bnS,List.any_cons]
   cases hc:p L[i]
   ·rw[cdF,w64 oM oM,Bool.false_or]
    exact f163_l1_eq L cb p hl n (i+1) _ (by push_cast;rfl) oM oM (λx hx=>hp x (List.mem_cons_of_mem _ hx))
   ·exact⟨_,rfl,by rw[Bool.true_or];exact dcT oM⟩
  ·rw[dcF (by omega:¬(i:Int)<(L.length:Int)),cdF,List.drop_eq_nil_of_le oM]
   exact⟨_,rfl,rfl⟩
theorem f163_eq(L:List Int)(cb:Int→Option Bool)(p:Int→Bool)(hl:L.length<9223372036854775808)(hp:∀x∈L,cb x=some (p x)):∃r,f163 L cb=some r∧decide (r≥0)=L.any p:=by
 unfold f163
 rw[am]
 exact f163_l1_eq L cb p hl _ 0 0 rfl (Nat.zero_le _) oM hp
theorem f112_eq(L:List Int)(cb:Int→Option Bool)(p:Int→Bool)(hl:L.length<9223372036854775808)(hp:∀x∈L,cb x=some (p x)):f112 L cb=some (L.any p):=by
 obtain⟨r,h1,h2⟩:=f163_eq L cb p hl hp
 unfold f112
 rw[h1,bnS,h2]
theorem f98_l1_eq(L:List aM)(cb:aM→Option Bool)(p:aM→Bool)(hl:L.length<9223372036854775808):∀(n i:Nat)(z:Int),z=(i:Int)→i≤L.length→L.length<n+i→(∀x∈L.drop i,cb x=some (p x))→∃r,f98_l1 L cb (λ_=>some (-1)) n z=some r∧decide (r≥0)=(L.drop i).any p
 |0,i,z,_,_,h,_=>oM
 |n+1,i,z,hz,hi,h,hp=>by
  subst hz
  rw[f98_l1]
  by_cases hh:i<L.length
  ·rw[ay hh] at hp⊢
   rw[dcT (by omega:(i:Int)<(L.length:Int)),cdT,au hh,bnS,hp _ List.mem_cons_self,bnS,List.any_cons]
   cases hc:p L[i]
   ·rw[cdF,w64 oM oM,Bool.false_or]
    exact f98_l1_eq L cb p hl n (i+1) _ (by push_cast;rfl) oM oM (λx hx=>hp x (List.mem_cons_of_mem _ hx))
   ·exact⟨_,rfl,by rw[Bool.true_or];exact dcT oM⟩
  ·rw[dcF (by omega:¬(i:Int)<(L.length:Int)),cdF,List.drop_eq_nil_of_le oM]
   exact⟨_,rfl,rfl⟩
theorem f98_eq(L:List aM)(cb:aM→Option Bool)(p:aM→Bool)(hl:L.length<9223372036854775808)(hp:∀x∈L,cb x=some (p x)):∃r,f98 L cb=some r∧decide (r≥0)=L.any p:=by
 unfold f98
 rw[am]
 exact f98_l1_eq L cb p hl _ 0 0 rfl (Nat.zero_le _) oM hp
theorem f35_eq(L:List aM)(cb:aM→Option Bool)(p:aM→Bool)(hl:L.length<9223372036854775808)(hp:∀x∈L,cb x=some (p x)):f35 L cb=some (L.any p):=by
 obtain⟨r,h1,h2⟩:=f98_eq L cb p hl hp
 unfold f35
 rw[h1,bnS,h2]
def spot(os:List Obj)(o from_ many:Int):Bool:=match idx os o with
 |some x=>decide (0≤from_)&&decide (from_≤IntKind.i64.wrap (x.size - many))
 |none=>false
theorem f89_eq(t:af)(o f m:Int):f89 ⟨t⟩ o f m=some (spot t.objs o f m):=by
 unfold f89 spot
 by_cases h:0≤o∧o<t.objs.length
 ·obtain⟨x,hx,_⟩:=aL h
  dsimp only
  rw[hx,dcT (show o≥0 from h.1),dcT h.2]
  by_cases hf:0≤f
  ·rw[dcT (show f≥0 from hf)];rfl
  ·rw[dcF (show¬f≥0 from hf)];rfl
 ·dsimp only
  rw[bt h]
  have:(decide (o≥0)&&decide (o<(t.objs.length:Int)))=false:=by
   rw[Bool.and_eq_false_iff]
   simp only[decide_eq_false_iff_not]
   omega
  rw[this];rfl
theorem fH{os:List Obj}{o f m:Int}(h:spot os o f m=true):∃x,idx os o=some x∧0≤f∧f≤IntKind.i64.wrap (x.size - m):=by
 unfold spot at h
 cases hx:idx os o with
 |none=>rw[hx] at h;cases h
 |some x=>
  rw[hx] at h
  simp only[Bool.and_eq_true,decide_eq_true_eq] at h
  exact⟨x,rfl,h⟩
def fits(o:Obj)(v:Int):Bool:=bif o.ptr then decide (v=0)||o.set_.any (λn=>f113 n v) else decide (v≥o.lo)&&decide (v≤o.hi)
theorem f45_eq(o:Obj)(v:Int)(hl:o.set_.length<9223372036854775808):f45 o v=some (fits o v):=by
 unfold f45 fits
 cases hp:o.ptr
 ·rfl
 ·rw[cdT,cdT]
  by_cases hv:v=0
  ·rw[dcT hv];rfl
  ·rw[dcF hv,f112_eq _ _ (λn=>f113 n v) hl λ_ _=>rfl];rfl
def aim(os:List Obj)(x:Int):Bool:=match idx os x with
 |some y=>decide (y.size=1)&& !y.ptr
 |none=>false
def eO(os:List Obj):Int→List Int→Bool
 |_,[]=>true
 |last,x::r=>decide (last<x)&&aim os x&&eO os x r
def cN(os:List Obj)(o:Obj):Bool:=
 !((decide (o.size<1)||decide (o.size>16384))||decide (o.lo>o.hi))&&bif !o.ptr then decide ((o.set_.length:Int)=0) else eO os (-1) o.set_&&(decide (o.lo=0)&&decide (o.hi=0))
theorem f88_l1_eq(t:af)(o:Obj)(r:Option Bool)(hl:o.set_.length<9223372036854775808):∀(n i:Nat)(z last:Int),z=(i:Int)→i≤o.set_.length→o.set_.length<n+i→-1≤last→
  f88_l1 ⟨t⟩ o (λ_=>r) n last z=bif eO t.objs last (o.set_.drop i) then r else some false
 |0,i,z,last,_,_,h,_=>oM
 |n+1,i,z,last,hz,hi,h,hla=>by
  subst hz
  rw[f88_l1]
  by_cases hh:i<o.set_.length
  ·rw[ay hh,eO]
   rw[dcT (by omega:(i:Int)<(o.set_.length:Int)),cdT,au hh,bnS]
   generalize o.set_[i]=x
   dsimp only
   by_cases h1:last<x
   ·rw[dcT h1,dcF (show¬x≤last by omega),Bool.false_or,Bool.true_and]
    unfold aim
    by_cases h2:x<t.objs.length
    ·obtain⟨y,hy,_⟩:=aL (L:=t.objs) (i:=x) oM
     rw[dcF (show¬x≥(t.objs.length:Int) by omega),cdF,hy]
     simp only[bnS]
     by_cases h3:y.size=1
     ·rw[dcT h3]
      cases h4:y.ptr
      ·rw[w64 oM oM]
       exact f88_l1_eq t o r hl n (i+1) _ x (by push_cast;rfl) oM oM oM
      ·rfl
     ·rw[dcF h3];rfl
    ·rw[bt oM,dcT (show x≥(t.objs.length:Int) by omega)];rfl
   ·rw[dcF h1,dcT (show x≤last by omega)];rfl
  ·rw[dcF (by omega:¬(i:Int)<(o.set_.length:Int)),cdF,List.drop_eq_nil_of_le oM]
   rfl
theorem f88_eq(t:af)(o:Obj)(hl:o.set_.length<9223372036854775808):f88 ⟨t⟩ o=some (cN t.objs o):=by
 unfold f88 cN
 cases h1:(decide (o.size<1)||decide (o.size>16384))||decide (o.lo>o.hi)
 ·rw[cdF,am,Bool.not_false,Bool.true_and]
  cases h2:o.ptr
  ·rfl
  ·rw[Bool.not_true,cdF,cdF,f88_l1_eq t o _ hl _ 0 0 (-1) rfl (Nat.zero_le _) oM oM,List.drop_zero]
   cases eO t.objs (-1) o.set_<;>rfl
 ·rfl
def jM(n:Int)(L:List Obj):Int:=L.foldl (λn x=>IntKind.i64.wrap (n+x.size)) n
theorem f27_l1_eq(t:af)(k:Int→Option Bool)(hl:t.objs.length<9223372036854775808)(hs:∀o∈t.objs,o.set_.length<9223372036854775808):∀(n i:Nat)(z a:Int),z=(i:Int)→i≤t.objs.length→t.objs.length<n+i→
  f27_l1 ⟨t⟩ k n a z=bif (t.objs.drop i).all (cN t.objs) then k (jM a (t.objs.drop i)) else some false
 |0,i,z,a,_,_,h=>oM
 |n+1,i,z,a,hz,hi,h=>by
  subst hz
  rw[f27_l1]
  dsimp only
  by_cases hh:i<t.objs.length
  ·rw[ay hh,List.all_cons,dcT (by omega:(i:Int)<(t.objs.length:Int)),cdT,au hh,bnS,f88_eq t _ (hs _ (List.getElem_mem _)),bnS,w64 (x:=(i:Int)+1) oM oM]
   cases hc:cN t.objs t.objs[i]
   ·rfl
   ·rw[Bool.not_true,cdF,Bool.true_and,f27_l1_eq t k hl hs n (i+1) _ _ (by push_cast;rfl) oM oM]
    rfl
  ·rw[dcF (by omega:¬(i:Int)<(t.objs.length:Int)),cdF,List.drop_eq_nil_of_le oM]
   rfl
def cK(os:List Obj)(x:cw):Bool:=spot os x.o x.slot 1&&(match idx os x.o with|some y=>fits y x.v|none=>false)
def bX(os:List Obj):List ((Int×Int)×Bool)→List cw→Bool
 |_,[]=>true
 |m,x::r=>(!(inM m (x.o,x.slot)))&&cK os x&&bX os (ba m (x.o,x.slot) true) r
theorem f27_l2_eq(t:af)(r:Option Bool)(hl:t.inits.length<9223372036854775808)(hs:∀o∈t.objs,o.set_.length<9223372036854775808):∀(n i:Nat)(z:Int)(m:List ((Int×Int)×Bool)),z=(i:Int)→i≤t.inits.length→t.inits.length<n+i→
  f27_l2 ⟨t⟩ (λ_=>r) n z m=bif bX t.objs m (t.inits.drop i) then r else some false
 |0,i,z,m,_,_,h=>oM
 |n+1,i,z,m,hz,hi,h=>by
  subst hz
  rw[f27_l2]
  dsimp only
  by_cases hh:i<t.inits.length
  ·rw[ay hh,bX,dcT (by omega:(i:Int)<(t.inits.length:Int)),cdT,au hh,bnS]
   generalize t.inits[i]=x
   rw[f89_eq,w64 oM oM,f27_l2_eq t r hl hs n (i+1) _ _ (by push_cast;rfl) oM oM]
   show Option.bind (bif inM m (x.o,x.slot) then _ else _) _=_
   cases hm:inM m (x.o,x.slot)
   ·unfold cK
    cases hsp:spot t.objs x.o x.slot 1
    ·rfl
    ·obtain⟨y,hy,_⟩:=fH hsp
     rw[hy]
     simp only[Bool.not_false,Bool.not_true,bnS,cdF,Bool.true_and]
     rw[f45_eq _ _ (hs _ (gY hy))]
     cases fits y x.v<;>rfl
   ·rfl
  ·rw[dcF (by omega:¬(i:Int)<(t.inits.length:Int)),cdF,List.drop_eq_nil_of_le oM]
   rfl
def gJ(t:af):Bool:= !((decide ((t.objs.length:Int)>4096)||decide (t.excs<4))||decide (t.excs>64))&&(t.objs.all (cN t.objs)&&(bX t.objs [] t.inits&&decide (jM 0 t.objs≤65536)))
theorem f27_eq(t:af)(hl:t.inits.length<9223372036854775808)(hs:∀o∈t.objs,o.set_.length<9223372036854775808):f27 ⟨t⟩=some (gJ t):=by
 unfold f27 gJ
 dsimp only
 cases h1:(decide ((t.objs.length:Int)>4096)||decide (t.excs<4))||decide (t.excs>64)
 ·have hol:(t.objs.length:Int)≤4096:=by
   simp only[Bool.or_eq_false_iff,decide_eq_false_iff_not] at h1
   omega
  rw[cdF,am,f27_l1_eq t _ oM hs _ 0 0 0 rfl (Nat.zero_le _) oM,am,f27_l2_eq t _ hl hs _ 0 0 [] rfl (Nat.zero_le _) oM]
  simp only[List.drop_zero]
  cases t.objs.all (cN t.objs)<;>cases bX t.objs [] t.inits<;>rfl
 ·rfl
def at1(t:af)(a:Int):Bool:=decide (a≥0)&&decide (a<(t.insns.length:Int))
theorem f47_eq(t:af)(a:Int):f47 ⟨t⟩ a=at1 t a:=rfl
theorem eI{t:af}{a:Int}:at1 t a=true↔0≤a∧a<(t.insns.length:Int):=by
 unfold at1;simp only[Bool.and_eq_true,decide_eq_true_eq,ge_iff_le]
def mi(os:List Obj)(x:Int):Bool:=match idx os x with
 |some y=>decide (y.size=1)
 |none=>false
theorem f152_eq(t:af)(x:Int):f152 x ⟨t⟩=some (!(mi t.objs x)):=by
 unfold f152 mi
 dsimp only
 by_cases h:0≤x∧x<t.objs.length
 ·obtain⟨y,hy,_⟩:=aL h
  rw[hy,dcF (show¬x<0 by omega),dcF (show¬x≥(t.objs.length:Int) by omega)]
  rfl
 ·rw[bt h]
  have:(decide (x<0)||decide (x≥(t.objs.length:Int)))=true:=by
   rw[Bool.or_eq_true]
   simp only[decide_eq_true_eq]
   omega
  rw[this];rfl
def cr(os:List Obj)(l:List Int):Bool:=decide ((l.length:Int)≤8)&&l.all (mi os)
theorem nz{α:Type}(p:α→Bool)(L:List α):(!(L.any λx=> !(p x)))=L.all p:=by
 induction L with
 |nil=>rfl
 |cons x L ih=>rw[List.any_cons,List.all_cons,←ih,Bool.not_or,Bool.not_not]
theorem f92_eq(t:af)(l:List Int):f92 ⟨t⟩ l=some (cr t.objs l):=by
 unfold f92 cr
 by_cases h:(l.length:Int)≤8
 ·rw[dcT h,cdT,f112_eq l _ (λx=> !(mi t.objs x)) oM λx _=>f152_eq t x,bnS,nz]
  rfl
 ·rw[dcF h];rfl
def cD(os:List Obj)(e:bd):Bool:=cr os e.ins&&cr os e.outs
theorem f91_eq(t:af)(e:bd):f91 e ⟨t⟩=some (!(cD t.objs e)):=by
 unfold f91 cD
 rw[f92_eq,f92_eq]
 cases cr t.objs e.ins<;>cases cr t.objs e.outs<;>rfl
def dK(t:af)(x:dc):Bool:= !(((((decide (x.prio<0)||decide (x.prio>31))||(!(at1 t x.at_)))||decide (x.deadline<0))||decide (x.deadline>2147483647))||decide ((x.entries.length:Int)>8))&&x.entries.all (cD t.objs)
theorem f28_l1_eq(t:af)(r:Option Bool)(hl:t.tasks.length<9223372036854775808):∀(n i:Nat)(z:Int),z=(i:Int)→i≤t.tasks.length→t.tasks.length<n+i→
  f28_l1 ⟨t⟩ (λ_=>r) n z=bif (t.tasks.drop i).all (dK t) then r else some false
 |0,i,z,_,_,h=>oM
 |n+1,i,z,hz,hi,h=>by
  subst hz
  rw[f28_l1]
  dsimp only
  by_cases hh:i<t.tasks.length
  ·rw[ay hh,List.all_cons,dcT (by omega:(i:Int)<(t.tasks.length:Int)),cdT,au hh,bnS,f47_eq]
   unfold dK
   generalize t.tasks[i]=x
   cases hc:((((decide (x.prio<0)||decide (x.prio>31))||(!(at1 t x.at_)))||decide (x.deadline<0))||decide (x.deadline>2147483647))||decide ((x.entries.length:Int)>8)
   ·have he:(x.entries.length:Int)≤8:=by
     simp only[Bool.or_eq_false_iff,decide_eq_false_iff_not] at hc
     omega
    rw[cdF,f90_eq x.entries _ (λe=> !(cD t.objs e)) oM λe _=>f91_eq t e,bnS,←nz (cD t.objs),w64 oM oM,f28_l1_eq t r hl n (i+1) _ (by push_cast;rfl) oM oM]
    cases x.entries.any λe=> !(cD t.objs e)<;>rfl
   ·rfl
  ·rw[dcF (by omega:¬(i:Int)<(t.tasks.length:Int)),cdF,List.drop_eq_nil_of_le oM]
   rfl
def cA(t:af):Bool:= !(decide ((t.tasks.length:Int)<1)||decide ((t.tasks.length:Int)>32))&&t.tasks.all (dK t)
theorem f28_eq(t:af):f28 ⟨t⟩=some (cA t):=by
 unfold f28 cA
 dsimp only
 cases h1:decide ((t.tasks.length:Int)<1)||decide ((t.tasks.length:Int)>32)
 ·have hol:(t.tasks.length:Int)≤32:=by
   simp only[Bool.or_eq_false_iff,decide_eq_false_iff_not] at h1
   omega
  rw[cdF,am,f28_l1_eq t _ oM _ 0 0 rfl (Nat.zero_le _) oM,List.drop_zero]
  cases t.tasks.all (dK t)<;>rfl
 ·rfl
def du(n:Int):List (Int×Bool)→List Int→Bool
 |_,[]=>true
 |m,x::r=>(!((decide (x<1)||decide (x≥n))||inM m x))&&du n (ba m x true) r
theorem f29_l2_eq(t:af)(l:List Int)(r:Option Bool)(hl:l.length<9223372036854775808):∀(n i:Nat)(z:Int)(m:List (Int×Bool)),z=(i:Int)→i≤l.length→l.length<n+i→
  f29_l2 ⟨t⟩ l (λ_=>r) n z m=bif du t.tasks.length m (l.drop i) then r else some false
 |0,i,z,m,_,_,h=>oM
 |n+1,i,z,m,hz,hi,h=>by
  subst hz
  rw[f29_l2]
  dsimp only
  by_cases hh:i<l.length
  ·rw[ay hh,du,dcT (by omega:(i:Int)<(l.length:Int)),cdT,au hh,bnS,w64 oM oM,f29_l2_eq t l r hl n (i+1) _ _ (by push_cast;rfl) oM oM]
   show(bif (_||inM m l[i]) then _ else _)=_
   cases (decide (l[i]<1)||decide (l[i]≥(t.tasks.length:Int)))||inM m l[i]<;>rfl
  ·rw[dcF (by omega:¬(i:Int)<(l.length:Int)),cdF,List.drop_eq_nil_of_le oM]
   rfl
def gL(t:af)(l:List Int):Bool:=du t.tasks.length [] l&& !(decide ((l.length:Int)>32))
theorem f29_l1_eq(t:af)(r:Option Bool)(hl:t.lists.length<9223372036854775808)(hs:∀l∈t.lists,l.length<9223372036854775808):∀(n i:Nat)(z:Int),z=(i:Int)→i≤t.lists.length→t.lists.length<n+i→
  f29_l1 ⟨t⟩ (λ_=>r) n z=bif (t.lists.drop i).all (gL t) then r else some false
 |0,i,z,_,_,h=>oM
 |n+1,i,z,hz,hi,h=>by
  subst hz
  rw[f29_l1]
  dsimp only
  by_cases hh:i<t.lists.length
  ·rw[ay hh,List.all_cons,dcT (by omega:(i:Int)<(t.lists.length:Int)),cdT,am,au hh,bnS,am]
   have hx:=hs _ (List.getElem_mem hh)
   generalize t.lists[i]=x at hx
   unfold gL
   rw[f29_l2_eq t x _ hx _ 0 0 [] rfl (Nat.zero_le _) oM,w64 oM oM,f29_l1_eq t r hl hs n (i+1) _ (by push_cast;rfl) oM oM,List.drop_zero]
   cases du t.tasks.length [] x<;>cases decide ((x.length:Int)>32)<;>rfl
  ·rw[dcF (by omega:¬(i:Int)<(t.lists.length:Int)),cdF,List.drop_eq_nil_of_le oM]
   rfl
def fg(t:af):Bool:= !(decide ((t.lists.length:Int)>4096))&&t.lists.all (gL t)
theorem f29_eq(t:af)(hs:∀l∈t.lists,l.length<9223372036854775808):f29 ⟨t⟩=some (fg t):=by
 unfold f29 fg
 dsimp only
 cases h1:decide ((t.lists.length:Int)>4096)
 ·have hol:(t.lists.length:Int)≤4096:=by
   simp only[decide_eq_false_iff_not] at h1
   omega
  rw[cdF,am,f29_l1_eq t _ oM hs _ 0 0 rfl (Nat.zero_le _) oM,List.drop_zero]
  cases t.lists.all (gL t)<;>rfl
 ·rfl
def d3(t:af)(obj:Int)(a:fu):Bool:=
 at1 t a.at_&&(decide (a.guard= -1)||spot t.objs obj a.guard 1)&&
 bif decide (a.kind=1) then(decide (a.entry≥0)&&decide (a.entry<8))&&decide (a.time=0)
 else bif decide (a.kind=2)||decide (a.kind=3) then decide (a.entry=0)&&spot t.objs obj a.time 1
 else decide (a.kind=4)&&decide ((IntKind.i64.wrap (BitVec.ofInt IntKind.i64.bits a.entry|||BitVec.ofInt IntKind.i64.bits a.time).toNat)=0)
theorem f157_eq(t:af)(n o:Int):f157 n ⟨t⟩ o=some (spot t.objs o n 1):=by
 unfold f157
 rw[f89_eq];rfl
theorem f96_eq(t:af)(o:Int)(a:fu):f96 ⟨t⟩ o a=some (d3 t o a):=by
 unfold f96 d3
 rw[f47_eq,f157_eq,f157_eq]
 simp only[am,bnS]
 cases at1 t a.at_
 ·rfl
 ·cases decide (a.guard= -1)
  ·cases spot t.objs o a.guard 1
   ·rfl
   ·cases decide (a.kind=1)
    ·cases decide (a.kind=2)<;>cases decide (a.kind=3)<;>cases decide (a.entry=0)<;>rfl
    ·rfl
  ·cases decide (a.kind=1)
   ·cases decide (a.kind=2)<;>cases decide (a.kind=3)<;>cases decide (a.entry=0)<;>rfl
   ·rfl
theorem f31_l2_eq(t:af)(x:bI)(k:Int→Option Bool)(a b:Option Bool)(ha:∀i:Int,0≤i→k i=a)(hl:x.alts.length<9223372036854775808):∀(n i:Nat)(z:Int),z=(i:Int)→i≤x.alts.length→x.alts.length<n+i→
  f31_l2 ⟨t⟩ x k (λ_=>b) n z=bif (x.alts.drop i).all (d3 t x.obj) then b else a
 |0,i,z,_,_,h=>oM
 |n+1,i,z,hz,hi,h=>by
  subst hz
  rw[f31_l2]
  by_cases hh:i<x.alts.length
  ·rw[ay hh,List.all_cons,dcT (by omega:(i:Int)<(x.alts.length:Int)),cdT,au hh,bnS,am,f96_eq,bnS]
   cases d3 t x.obj x.alts[i]
   ·exact ha _ oM
   ·dsimp only
    rw[Bool.not_true,cdF,w64 oM oM,f31_l2_eq t x k a b ha hl n (i+1) _ (by push_cast;rfl) oM oM,Bool.true_and]
  ·rw[dcF (by omega:¬(i:Int)<(x.alts.length:Int)),cdF,List.drop_eq_nil_of_le oM]
   rfl
def fJ(t:af)(x:bI):Bool:= !((((decide ((x.alts.length:Int)<1)||decide ((x.alts.length:Int)>16))||decide (x.obj<0))||decide (x.obj≥(t.objs.length:Int)))||((!decide (x.else_= -1))&&(!(at1 t x.else_))))&&x.alts.all (d3 t x.obj)
theorem f31_l1_eq(t:af)(r:Option Bool)(hl:t.selects.length<9223372036854775808):∀(n i:Nat)(z:Int),z=(i:Int)→i≤t.selects.length→t.selects.length<n+i→
  f31_l1 ⟨t⟩ (λ_=>r) n z=bif (t.selects.drop i).all (fJ t) then r else some false
 |0,i,z,_,_,h=>oM
 |n+1,i,z,hz,hi,h=>by
  subst hz
  rw[f31_l1]
  dsimp only
  by_cases hh:i<t.selects.length
  ·rw[ay hh,List.all_cons,dcT (by omega:(i:Int)<(t.selects.length:Int)),cdT,au hh,bnS,f47_eq]
   generalize t.selects[i]=x
   unfold fJ
   cases hc:(((decide ((x.alts.length:Int)<1)||decide ((x.alts.length:Int)>16))||decide (x.obj<0))||decide (x.obj≥(t.objs.length:Int)))||((!decide (x.else_= -1))&&(!(at1 t x.else_)))
   ·have he:(x.alts.length:Int)≤16:=by
     simp only[Bool.or_eq_false_iff,decide_eq_false_iff_not] at hc
     omega
    simp only[am]
    rw[cdF,f31_l2_eq t x _ (some false) _ (λi h=>by rw[dcT (show i≥0 from h)];rfl) oM _ 0 0 rfl (Nat.zero_le _) oM,List.drop_zero,w64 oM oM,f31_l1_eq t r hl n (i+1) _ (by push_cast;rfl) oM oM]
    cases x.alts.all (d3 t x.obj)<;>rfl
   ·rfl
  ·rw[dcF (by omega:¬(i:Int)<(t.selects.length:Int)),cdF,List.drop_eq_nil_of_le oM]
   rfl
def ie(t:af):Bool:= !(decide ((t.selects.length:Int)>1024))&&t.selects.all (fJ t)
theorem f31_eq(t:af):f31 ⟨t⟩=some (ie t):=by
 unfold f31 ie
 dsimp only
 cases h1:decide ((t.selects.length:Int)>1024)
 ·have hol:(t.selects.length:Int)≤1024:=by
   simp only[decide_eq_false_iff_not] at h1
   omega
  rw[cdF,am,f31_l1_eq t _ oM _ 0 0 rfl (Nat.zero_le _) oM,List.drop_zero]
  cases t.selects.all (fJ t)<;>rfl
 ·rfl
def ff(h g:az):Bool:= !((!(decide (g.from_≥h.from_)&&decide (g.to≤h.to)))&&decide ((if h.from_>g.from_ then h.from_ else g.from_)<(if h.to<g.to then h.to else g.to)))
theorem kN{α:Type}(L:List α)(i:Nat):bC L 0 (i:Int)=L.take i:=by simp[bC]
theorem f32_l2_eq(t:af)(j:Nat)(h0:az)(r:Option Bool)(hj:j≤t.handlers.length)(hl:t.handlers.length<9223372036854775808):∀(n i:Nat)(z:Int),z=(i:Int)→i≤j→j<n+i→
  f32_l2 ⟨t⟩ (j:Int) (λ_ _ _ _=>r) h0 n z=bif ((t.handlers.take j).drop i).all (ff h0) then r else some false
 |0,i,z,_,_,h=>oM
 |n+1,i,z,hz,hi,h=>by
  subst hz
  have hL:(t.handlers.take j).length=j:=by rw[List.length_take];omega
  rw[f32_l2]
  dsimp only
  rw[kN]
  by_cases hh:i<(t.handlers.take j).length
  ·rw[ay hh,List.all_cons,dcT (by omega:(i:Int)<((t.handlers.take j).length:Int)),cdT,au hh,bnS,w64 oM oM,f32_l2_eq t j h0 r hj hl n (i+1) _ (by push_cast;rfl) oM oM]
   generalize(t.handlers.take j)[i]=g
   unfold ff
   cases (!(decide (g.from_≥h0.from_)&&decide (g.to≤h0.to)))&&decide ((if h0.from_>g.from_ then h0.from_ else g.from_)<(if h0.to<g.to then h0.to else g.to))<;>rfl
  ·rw[dcF (by omega:¬(i:Int)<((t.handlers.take j).length:Int)),cdF,List.drop_eq_nil_of_le oM]
   rfl
def dO(t:af)(x:az):Bool:=((((decide (x.from_<0))||(decide (x.from_≥x.to)))||(decide (x.to>(t.insns.length:Int))))||(!(at1 t x.at_)))||(f50 x x.at_)
def dN(t:af):List az→List az→Bool
 |_,[]=>true
 |P,x::r=>(!(dO t x))&&P.all (ff x)&&dN t (P++ [x]) r
theorem f32_l1_eq(t:af)(r:Option Bool)(hl:t.handlers.length<9223372036854775808):∀(n i:Nat)(z:Int),z=(i:Int)→i≤t.handlers.length→t.handlers.length<n+i→
  f32_l1 ⟨t⟩ (λ_=>r) n z=bif dN t (t.handlers.take i) (t.handlers.drop i) then r else some false
 |0,i,z,_,_,h=>oM
 |n+1,i,z,hz,hi,h=>by
  subst hz
  rw[f32_l1]
  dsimp only
  by_cases hh:i<t.handlers.length
  ·have hL:(t.handlers.take i).length=i:=by rw[List.length_take];omega
   rw[ay hh,dN,←List.take_succ_eq_append_getElem hh,dcT (by omega:(i:Int)<(t.handlers.length:Int)),cdT,am,au hh,bnS,f47_eq,k9 _ (by simp[dL];omega),kN,w64 oM oM,f32_l2_eq t i _ _ oM hl _ 0 0 rfl (Nat.zero_le _) oM,f32_l1_eq t r hl n (i+1) _ (by push_cast;rfl) oM oM,List.drop_zero]
   generalize t.handlers[i]=x
   show(bif dO t x then _ else _)=_
   cases dO t x<;>cases (t.handlers.take i).all (ff x)<;>rfl
  ·rw[dcF (by omega:¬(i:Int)<(t.handlers.length:Int)),cdF,List.drop_eq_nil_of_le oM]
   rfl
def iu(t:af):Bool:= !(decide ((t.handlers.length:Int)>4096))&&dN t [] t.handlers
theorem f32_eq(t:af):f32 ⟨t⟩=some (iu t):=by
 unfold f32 iu
 dsimp only
 cases h1:decide ((t.handlers.length:Int)>4096)
 ·have hol:(t.handlers.length:Int)≤4096:=by
   simp only[decide_eq_false_iff_not] at h1
   omega
  rw[cdF,am,f32_l1_eq t _ oM _ 0 0 rfl (Nat.zero_le _) oM,List.drop_zero,List.take_zero]
  cases dN t [] t.handlers<;>rfl
 ·rfl
def o6(t:af)(x:Loop):Bool:=(!((decide (x.head<0)||decide (x.head>x.back))||(!(at1 t x.back))))&&(match idx t.insns x.back with|some y=>f97 y x.head|none=>false)&& !(decide (x.bound<0)||decide (x.bound>2147483647))
def fR(t:af):List (Int×Bool)→List Loop→Bool
 |_,[]=>true
 |m,x::r=>(!(inM m x.back))&&o6 t x&&fR t (ba m x.back true) r
theorem f33_l1_eq(t:af)(r:Option Bool)(hl:t.loops.length<9223372036854775808):∀(n i:Nat)(z:Int)(m:List (Int×Bool)),z=(i:Int)→i≤t.loops.length→t.loops.length<n+i→
  f33_l1 ⟨t⟩ (λ_=>r) n z m=bif fR t m (t.loops.drop i) then r else some false
 |0,i,z,m,_,_,h=>oM
 |n+1,i,z,m,hz,hi,h=>by
  subst hz
  rw[f33_l1]
  dsimp only
  by_cases hh:i<t.loops.length
  ·rw[ay hh,fR,dcT (by omega:(i:Int)<(t.loops.length:Int)),cdT,au hh,bnS,f47_eq,w64 oM oM,f33_l1_eq t r hl n (i+1) _ _ (by push_cast;rfl) oM oM]
   generalize t.loops[i]=x
   unfold o6
   show Option.bind (bif (_||inM m x.back) then _ else _) _=_
   cases h1:(decide (x.head<0)||decide (x.head>x.back))||(!(at1 t x.back))
   ·cases inM m x.back
    ·have h2:at1 t x.back=true:=by
      cases h:at1 t x.back
      ·rw[h] at h1;simp at h1
      ·rfl
     obtain⟨y,hy,_⟩:=aL (eI.1 h2)
     rw[hy]
     simp only[bnS,Bool.or_self,cdF,Bool.not_false,Bool.true_and,Bool.or_assoc]
     cases f97 y x.head<;>cases (decide (x.bound<0)||decide (x.bound>2147483647))<;>rfl
    ·rfl
   ·cases inM m x.back<;>rfl
  ·rw[dcF (by omega:¬(i:Int)<(t.loops.length:Int)),cdF,List.drop_eq_nil_of_le oM]
   rfl
def mm(t:af):Bool:= !(decide ((t.loops.length:Int)>4096))&&fR t [] t.loops
theorem f33_eq(t:af):f33 ⟨t⟩=some (mm t):=by
 unfold f33 mm
 dsimp only
 cases h1:decide ((t.loops.length:Int)>4096)
 ·have hol:(t.loops.length:Int)≤4096:=by
   simp only[decide_eq_false_iff_not] at h1
   omega
  rw[cdF,am,f33_l1_eq t _ oM _ 0 0 [] rfl (Nat.zero_le _) oM,List.drop_zero]
  cases fR t [] t.loops<;>rfl
 ·rfl
def chk(t:af)(a:Int):Bool:=match idx t.insns a with
 |some x=>decide (x.op=27)||decide (x.op=28)
 |none=>false
theorem f61_eq(t:af)(a:Int):f61 ⟨t⟩ a=some (chk t a):=by
 unfold f61 chk
 rw[f47_eq]
 dsimp only
 cases h:at1 t a
 ·rw[bt (λhh=>by rw[eI.2 hh] at h;cases h)];rfl
 ·obtain⟨y,hy,_⟩:=aL (eI.1 h)
  rw[hy]
  dsimp only[bnS,cdT]
  cases decide (y.op=27)<;>rfl
def fW(t:af):Int→List cP→Bool
 |_,[]=>true
 |last,x::r=>((decide (last<x.at_)&&chk t x.at_)&& !(decide (x.kind<1)||decide (x.kind>5)))&&fW t x.at_ r
theorem f34_l1_eq(t:af)(r:Option Bool)(hl:t.checks.length<9223372036854775808):∀(n i:Nat)(z last:Int),z=(i:Int)→i≤t.checks.length→t.checks.length<n+i→
  f34_l1 ⟨t⟩ (λ_=>r) n last z=bif fW t last (t.checks.drop i) then r else some false
 |0,i,z,last,_,_,h=>oM
 |n+1,i,z,last,hz,hi,h=>by
  subst hz
  rw[f34_l1]
  dsimp only
  by_cases hh:i<t.checks.length
  ·rw[ay hh,fW,dcT (by omega:(i:Int)<(t.checks.length:Int)),cdT,au hh,bnS,f61_eq,w64 oM oM,f34_l1_eq t r hl n (i+1) _ _ (by push_cast;rfl) oM oM]
   generalize t.checks[i]=x
   by_cases h1:last<x.at_
   ·rw[dcT h1,dcF (show¬x.at_≤last by omega)]
    cases chk t x.at_<;>cases decide (x.kind<1)<;>cases decide (x.kind>5)<;>rfl
   ·rw[dcF h1,dcT (show x.at_≤last by omega)];rfl
  ·rw[dcF (by omega:¬(i:Int)<(t.checks.length:Int)),cdF,List.drop_eq_nil_of_le oM]
   rfl
theorem f34_eq(t:af)(hl:t.checks.length<9223372036854775808):f34 ⟨t⟩=some (fW t (-1) t.checks):=by
 unfold f34
 dsimp only
 rw[am,f34_l1_eq t _ hl _ 0 0 (-1) rfl (Nat.zero_le _) oM,List.drop_zero]
 cases fW t (-1) t.checks<;>rfl
def be(os:List Obj)(ent:Int)(e:aq):Bool×Int×Int×Int×Int×Int:=
 bif decide (e.kind=1) then(true,0,0,e.n,0,0) else
 bif decide (e.kind=2) then(bif spot os e.o e.off 1&&(match idx os e.o with|some y=> !y.ptr|none=>false) then(true,0,0,0,e.o,e.off) else(false,0,0,0,0,0)) else
 bif decide (e.kind=14) then(decide (e.n≥0)&&decide (e.n<ent),0,0,e.n,0,0) else
 bif decide (e.kind=4) then(true,1,18,0,0,0) else
 bif decide (e.kind=5) then(true,2,(if(if 15<e.op then 15 else e.op)>7 then(if 15<e.op then 15 else e.op) else 7),0,0,0) else
 bif decide (e.kind=6)||decide (e.kind=7) then(true,2,0,0,0,0) else(false,0,0,0,0,0)
def ck(os:List Obj)(ent:Int)(e:aq):Bool:=
 ((((((((!(be os ent e).1)||(!decide ((List.length e.l:Int)=(be os ent e).2.1)))||(!decide (e.op=(be os ent e).2.2.1)))||(!decide (e.n=(be os ent e).2.2.2.1)))||(!decide (e.o=(be os ent e).2.2.2.2.1)))||(!decide (e.off=(be os ent e).2.2.2.2.2)))||(!decide (e.len=0)))||(!decide (e.lo=0)))||(!decide (e.hi=0))
def exL(rec:Int→aq→Bool×Int):List aq→Int→Bool×Int
 |[],l=>(true,l)
 |e::r,l=>bif (rec l e).1 then exL rec r (rec l e).2 else(false,(rec l e).2)
def exF(os:List Obj)(ent:Int):Nat→Int→Int→aq→Bool×Int
 |0,_,left,_=>(false,left)
 |n+1,deep,left,e=>
  bif (decide (IntKind.i64.wrap (left - 1)<0)||decide (deep>64))||ck os ent e then(false,IntKind.i64.wrap (left - 1))
  else exL (exF os ent n (deep+1)) e.l (IntKind.i64.wrap (left - 1))
theorem l7(os:List Obj)(ent:Int)(e:aq):(be os ent e).2.1≤2:=by
 unfold be
 cases decide (e.kind=1)<;>cases decide (e.kind=2)<;>cases decide (e.kind=14)<;>cases decide (e.kind=4)<;>cases decide (e.kind=5)<;>cases (decide (e.kind=6)||decide (e.kind=7))<;>simp<;>cases (spot os e.o e.off 1&&(match idx os e.o with|some y=> !y.ptr|none=>false))<;>simp
abbrev Rt:Type:=Bool×(List aM)×(List az)×(List Loop)×(List bI)×(List (List Int))×(List Obj)×(List cw)×Int×(List dc)×(List cO)×(List cP)×Int×Int
abbrev Re:Type:=(List aM)→(List az)→(List Loop)→(List bI)→(List (List Int))→(List Obj)→(List cw)→Int→(List dc)→(List cO)→(List cP)→Int→Int→aq→Int→Option Rt
section
variable(v0:List aM)(v1:List az)(v2:List Loop)(v3:List bI)(v4:List (List Int))(v5:List Obj)(v6:List cw)(v7:Int)(v8:List dc)(v9:List cO)(v10:List cP)(ent:Int)
def jQ(z:Bool×Int):Option Rt:=some (z.1,v0,v1,v2,v3,v4,v5,v6,v7,v8,v9,v10,ent,z.2)
theorem f93s_l1_eq(rec:Re)(g:Int→aq→Bool×Int)(e:aq)(deep:Int)
  (hrec:∀l x,rec v0 v1 v2 v3 v4 v5 v6 v7 v8 v9 v10 ent l x (IntKind.i64.wrap (deep+1))=jQ v0 v1 v2 v3 v4 v5 v6 v7 v8 v9 v10 ent (g l x))
  (ka:Int→(List aM)→(List az)→(List Loop)→(List bI)→(List (List Int))→(List Obj)→(List cw)→Int→(List dc)→(List cO)→(List cP)→Int→Int→Option Rt)
  (kb:(List aM)→(List az)→(List Loop)→(List bI)→(List (List Int))→(List Obj)→(List cw)→Int→(List dc)→(List cO)→(List cP)→Int→Int→Option Rt)
  (ha:∀(i:Int) l,0≤i→ka i v0 v1 v2 v3 v4 v5 v6 v7 v8 v9 v10 ent l=jQ v0 v1 v2 v3 v4 v5 v6 v7 v8 v9 v10 ent (false,l))
  (hb:∀l,kb v0 v1 v2 v3 v4 v5 v6 v7 v8 v9 v10 ent l=jQ v0 v1 v2 v3 v4 v5 v6 v7 v8 v9 v10 ent (true,l))
  (hl:e.l.length<9223372036854775808):∀(n i:Nat)(z l:Int),z=(i:Int)→i≤e.l.length→e.l.length<n+i→
  f93s_l1 rec e deep ka kb n z v0 v1 v2 v3 v4 v5 v6 v7 v8 v9 v10 ent l=jQ v0 v1 v2 v3 v4 v5 v6 v7 v8 v9 v10 ent (exL g (e.l.drop i) l)
 |0,i,z,l,_,_,h=>oM
 |n+1,i,z,l,hz,hi,h=>by
  subst hz
  rw[f93s_l1]
  by_cases hh:i<e.l.length
  ·rw[ay hh,exL,dcT (by omega:(i:Int)<(e.l.length:Int)),cdT,au hh,bnS,am,hrec]
   unfold jQ
   dsimp only[bnS]
   cases (g l e.l[i]).1
   ·exact ha _ _ oM
   ·rw[Bool.not_true,cdF,w64 oM oM]
    exact f93s_l1_eq rec g e deep hrec ka kb ha hb hl n (i+1) _ _ (by push_cast;rfl) oM oM
  ·rw[dcF (by omega:¬(i:Int)<(e.l.length:Int)),cdF,List.drop_eq_nil_of_le oM]
   exact hb _
theorem f93s_eq(rec:Re)(g:Int→aq→Bool×Int)(e:aq)(deep left:Int)
  (hrec:deep≤64→∀l x,rec v0 v1 v2 v3 v4 v5 v6 v7 v8 v9 v10 ent l x (IntKind.i64.wrap (deep+1))=jQ v0 v1 v2 v3 v4 v5 v6 v7 v8 v9 v10 ent (g l x)):∀z,f93s rec v0 v1 v2 v3 v4 v5 v6 v7 v8 v9 v10 ent left e deep=z→
  z=jQ v0 v1 v2 v3 v4 v5 v6 v7 v8 v9 v10 ent (bif (decide (IntKind.i64.wrap (left - 1)<0)||decide (deep>64))||ck v5 ent e then(false,IntKind.i64.wrap (left - 1)) else exL g e.l (IntKind.i64.wrap (left - 1))):=by
 intro z h
 unfold f93s at h
 obtain⟨K,hK,h⟩:=aQ h
 have h':K (be v5 ent e).1 (be v5 ent e).2.1 (aq.mk e.kind (be v5 ent e).2.2.1 (be v5 ent e).2.2.2.1 (be v5 ent e).2.2.2.2.1 (be v5 ent e).2.2.2.2.2 0 0 0 []) (be v5 ent e).2.2.1 (be v5 ent e).2.2.2.1 (be v5 ent e).2.2.2.2.1 (be v5 ent e).2.2.2.2.2=z:=by
  rw[←h,am]
  unfold be
  cases decide (e.kind=1)
  ·cases decide (e.kind=2)
   ·cases decide (e.kind=14)
    ·cases decide (e.kind=4)
     ·cases decide (e.kind=5)
      ·cases decide (e.kind=6)<;>cases decide (e.kind=7)<;>rfl
      ·rfl
     ·rfl
    ·cases decide (e.n≥0)<;>rfl
   ·rw[f89_eq]
    dsimp only[bnS,cdT,cdF]
    cases hs:spot v5 e.o e.off 1
    ·rfl
    ·obtain⟨y,hy,_⟩:=fH hs
     rw[hy]
     dsimp only[bnS,cdT,cdF]
     cases y.ptr<;>rfl
  ·rfl
 clear h
 rw[hK] at h'
 dsimp only at h'
 have hc:=l7 v5 ent e
 have e1:(((((((((((decide (IntKind.i64.wrap (left - 1)<0))||(decide (deep>64)))||(!(be v5 ent e).1))||(!decide ((List.length e.l:Int)=(be v5 ent e).2.1)))||(!decide (e.op=(be v5 ent e).2.2.1)))||(!decide (e.n=(be v5 ent e).2.2.2.1)))||(!decide (e.o=(be v5 ent e).2.2.2.2.1)))||(!decide (e.off=(be v5 ent e).2.2.2.2.2)))||(!decide (e.len=0)))||(!decide (e.lo=0)))||(!decide (e.hi=0)))=((decide (IntKind.i64.wrap (left - 1)<0)||decide (deep>64))||ck v5 ent e):=by
  unfold ck
  simp only[Bool.or_assoc]
 rw[e1] at h'
 cases hbad:(decide (IntKind.i64.wrap (left - 1)<0)||decide (deep>64))||ck v5 ent e
 ·rw[hbad,cdF] at h'
  have hd:deep≤64:=by
   simp only[Bool.or_eq_false_iff,decide_eq_false_iff_not] at hbad
   omega
  have hlen:e.l.length≤2:=by
   simp only[Bool.or_eq_false_iff] at hbad
   have:=hbad.2
   unfold ck at this
   simp only[Bool.or_eq_false_iff,Bool.not_eq_false',decide_eq_true_eq] at this
   have:=this.1.1.1.1.1.1.1.2
   omega
  simp only[am] at h'
  rw[f93s_l1_eq v0 v1 v2 v3 v4 v5 v6 v7 v8 v9 v10 ent rec g e deep (hrec hd) _ _ (λi l h0=>by rw[dcT (show i≥0 from h0)];rfl) (λl=>rfl) oM _ 0 0 _ rfl (Nat.zero_le _) oM,List.drop_zero] at h'
  rw[←h',cdF]
 ·rw[hbad,cdT] at h'
  rw[←h',cdT]
  rfl
theorem f93_eq:∀(n:Nat)(deep left:Int)(e:aq),1≤deep→deep≤65→66<n+deep→f93 n v0 v1 v2 v3 v4 v5 v6 v7 v8 v9 v10 ent left e deep=jQ v0 v1 v2 v3 v4 v5 v6 v7 v8 v9 v10 ent (exF v5 ent n deep left e)
 |0,deep,left,e,h0,h1,h2=>oM
 |n+1,deep,left,e,h0,h1,h2=>by
  rw[f93,exF]
  exact f93s_eq v0 v1 v2 v3 v4 v5 v6 v7 v8 v9 v10 ent (f93 n) (exF v5 ent n (deep+1)) e deep left (λhd l x=>by
   rw[w64 oM oM]
   exact f93_eq n (deep+1) l x oM oM oM) _ rfl
end
def iI(t:af)(ent:Int)(e:aq):Bool:=(exF t.objs ent 66 1 256 e).1
theorem f30_l2_eq(t:af)(x:cO)(r:Option Bool)(hl:x.barriers.length<9223372036854775808):∀(n i:Nat)(z:Int),z=(i:Int)→i≤x.barriers.length→x.barriers.length<n+i→
  f30_l2 ⟨t⟩ (λ_ _=>r) x n z=bif (x.barriers.drop i).all (iI t x.barriers.length) then r else some false
 |0,i,z,_,_,h=>oM
 |n+1,i,z,hz,hi,h=>by
  subst hz
  rw[f30_l2]
  dsimp only
  by_cases hh:i<x.barriers.length
  ·rw[ay hh,List.all_cons,dcT (by omega:(i:Int)<(x.barriers.length:Int)),cdT,au hh,bnS,f93_eq _ _ _ _ _ _ _ _ _ _ _ _ 66 1 256 _ oM oM oM,w64 oM oM,f30_l2_eq t x r hl n (i+1) _ (by push_cast;rfl) oM oM]
   unfold jQ iI
   dsimp only[bnS]
   cases (exF t.objs x.barriers.length 66 1 256 x.barriers[i]).1<;>rfl
  ·rw[dcF (by omega:¬(i:Int)<(x.barriers.length:Int)),cdF,List.drop_eq_nil_of_le oM]
   rfl
def eb(t:af)(x:cO):Bool:= !((decide (x.ceiling<0)||decide (x.ceiling>31))||decide ((x.barriers.length:Int)>8))&&x.barriers.all (iI t x.barriers.length)
theorem f30_l1_eq(t:af)(r:Option Bool)(hl:t.prots.length<9223372036854775808):∀(n i:Nat)(z:Int),z=(i:Int)→i≤t.prots.length→t.prots.length<n+i→
  f30_l1 ⟨t⟩ (λ_=>r) n z=bif (t.prots.drop i).all (eb t) then r else some false
 |0,i,z,_,_,h=>oM
 |n+1,i,z,hz,hi,h=>by
  subst hz
  rw[f30_l1]
  dsimp only
  by_cases hh:i<t.prots.length
  ·rw[ay hh,List.all_cons,dcT (by omega:(i:Int)<(t.prots.length:Int)),cdT,am,au hh,bnS]
   generalize t.prots[i]=x
   unfold eb
   cases hc:(decide (x.ceiling<0)||decide (x.ceiling>31))||decide ((x.barriers.length:Int)>8)
   ·have he:(x.barriers.length:Int)≤8:=by
     simp only[Bool.or_eq_false_iff,decide_eq_false_iff_not] at hc
     omega
    rw[cdF,f30_l2_eq t x _ oM _ 0 0 rfl (Nat.zero_le _) oM,w64 oM oM,f30_l1_eq t r hl n (i+1) _ (by push_cast;rfl) oM oM,List.drop_zero]
    cases x.barriers.all (iI t x.barriers.length)<;>rfl
   ·rfl
  ·rw[dcF (by omega:¬(i:Int)<(t.prots.length:Int)),cdF,List.drop_eq_nil_of_le oM]
   rfl
def fc(t:af):Bool:=t.prots.all (eb t)&&decide ((t.prots.length:Int)≤32)
theorem f30_eq(t:af)(hl:t.prots.length<9223372036854775808):f30 ⟨t⟩=some (fc t):=by
 unfold f30 fc
 dsimp only
 rw[am,f30_l1_eq t _ hl _ 0 0 rfl (Nat.zero_le _) oM,List.drop_zero]
 cases t.prots.all (eb t)<;>rfl
def prs(o:Int):Option (List ByteArray):=(f158 o).bind λr=>f186 r.1.fields
def ch(s:ByteArray):Int×Int:=((dg s 0).getD 0,(dg s 1).getD 0)
def iy(o:Int):List (Int×Int):=((prs o).getD []).map ch
theorem sc:∀k,k<57→(match prs ((k:Nat)+1:Int) with|some l=>Nat.blt l.length 100&&l.all λs=>(dg s 0).isSome&&(dg s 1).isSome|none=>false)=true:=by decide+kernel
theorem f158_ok:∀k,k<57→(match f158 ((k:Nat)+1:Int) with|some r=>r.2|none=>false)=true:=by decide+kernel
theorem f158_eq{o:Int}(h1:1≤o)(h2:o≤57):∃r,f158 o=some (r,true):=by
 obtain⟨k,rfl⟩:∃k:Nat,o=(k:Int)+1:=⟨(o - 1).toNat,oM⟩
 have:=f158_ok k oM
 cases h:f158 ((k:Int)+1) with
 |none=>rw[h] at this;cases this
 |some r=>rw[h] at this;exact⟨r.1,by dsimp only at this;rw[←this]⟩
theorem se{o:Int}(h1:1≤o)(h2:o≤57):∃l,prs o=some l∧l.length<100∧∀s∈l,(∃c,dg s 0=some c)∧∃c,dg s 1=some c:=by
 obtain⟨k,rfl⟩:∃k:Nat,o=(k:Int)+1:=⟨(o - 1).toNat,oM⟩
 have:=sc k oM
 cases h:prs ((k:Int)+1) with
 |none=>rw[h] at this;cases this
 |some l=>
  rw[h] at this
  rw[Bool.and_eq_true] at this
  refine⟨l,rfl,by simpa using this.1,λs hs=>?_⟩
  have:=List.all_eq_true.1 this.2 s hs
  rw[Bool.and_eq_true] at this
  exact⟨Option.isSome_iff_exists.1 this.1,Option.isSome_iff_exists.1 this.2⟩
def rng(w v:Int):Bool:= !(decide (v<(f189 w).1)||decide (v>(f189 w).2))
def fl:List (Int×Int)→Int→Int→Int→Int→Int→Int→Bool
 |[],d,a,b,n,m,to=>(decide (d=0))&&((decide (a=0))&&((decide (b=0))&&((decide (n=0))&&((decide (m=0))&&((decide (to=0))&&true)))))
 |(c,w)::r,d,a,b,n,m,to=>
  bif decide (c=68) then rng w d&&fl r 0 a b n m to else
  bif decide (c=65) then rng w a&&fl r d 0 b n m to else
  bif decide (c=66) then rng w b&&fl r d a 0 n m to else
  bif decide (c=78) then rng w n&&fl r d a b 0 m to else
  bif decide (c=77) then rng w m&&fl r d a b n 0 to else rng w to&&fl r d a b n m 0
theorem f99_l1_eq(k1 k2 k3 k4 k5 k6:Int→Int→Int→Int→Int→Int→ByteArray→ByteArray→Int→Int→Int→Int→Option Bool)
  (h1:∀a b c d e f g h i j k l,k1 a b c d e f g h i j k l=some false)(h2:∀a b c d e f g h i j k l,k2 a b c d e f g h i j k l=some false)(h3:∀a b c d e f g h i j k l,k3 a b c d e f g h i j k l=some false)
  (h4:∀a b c d e f g h i j k l,k4 a b c d e f g h i j k l=some false)(h5:∀a b c d e f g h i j k l,k5 a b c d e f g h i j k l=some false)(h6:∀a b c d e f g h i j k l,k6 a b c d e f g h i j k l=some false)
  (k7:Int→Int→Int→Int→Int→Int→ByteArray→ByteArray→Option Bool)(h7:∀d a b n m to x y,k7 d a b n m to x y=some (fl [] d a b n m to))(r:ez×Bool)(L:List ByteArray)(hL:∀s∈L,(∃c,dg s 0=some c)∧∃c,dg s 1=some c)(hl:L.length<9223372036854775808):
  ∀(n i:Nat)(z d a b vn m to:Int),z=(i:Int)→i≤L.length→L.length<n+i→f99_l1 k1 k2 k3 k4 k5 k6 k7 r L n z d a b vn m to=some (fl ((L.drop i).map ch) d a b vn m to)
 |0,i,z,_,_,_,_,_,_,_,_,h=>oM
 |n+1,i,z,d,a,b,vn,m,to,hz,hi,h=>by
  subst hz
  rw[f99_l1]
  by_cases hh:i<L.length
  ·obtain⟨⟨c,hc⟩,w,hw⟩:=hL _ (List.getElem_mem hh)
   have ih:=λd a b vn m to=>f99_l1_eq k1 k2 k3 k4 k5 k6 h1 h2 h3 h4 h5 h6 k7 h7 r L hL hl n (i+1) _ d a b vn m to (by push_cast;rfl) oM oM
   have he:ch L[i]=(c,w):=by unfold ch;rw[hc,hw];rfl
   rw[ay hh,List.map_cons,he,fl,dcT (by omega:(i:Int)<(L.length:Int)),cdT,au hh,bnS,hc,bnS,w64 oM oM]
   simp only[am,hw,bnS,h1,h2,h3,h4,h5,h6,ih]
   unfold rng
   cases decide (c=68)
   ·cases decide (c=65)
    ·cases decide (c=66)
     ·cases decide (c=78)
      ·cases decide (c=77)
       ·cases (decide (to<(f189 w).1)||decide (to>(f189 w).2))<;>rfl
       ·cases (decide (m<(f189 w).1)||decide (m>(f189 w).2))<;>rfl
      ·cases (decide (vn<(f189 w).1)||decide (vn>(f189 w).2))<;>rfl
     ·cases (decide (b<(f189 w).1)||decide (b>(f189 w).2))<;>rfl
    ·cases (decide (a<(f189 w).1)||decide (a>(f189 w).2))<;>rfl
   ·cases (decide (d<(f189 w).1)||decide (d>(f189 w).2))<;>rfl
  ·rw[dcF (by omega:¬(i:Int)<(L.length:Int)),cdF,List.drop_eq_nil_of_le oM,h7]
   rfl
def fk(x:aM):Bool:= !((!(decide (1≤x.op)&&decide (x.op≤57)))||(decide (x.op=27)&&decide (x.n>x.m)))&&(!((decide (x.op=37)&&decide ((IntKind.u8.wrap x.n)=6))&&(!decide (x.m=0)))&&fl (iy x.op) x.d x.a x.b x.n x.m x.to)
theorem f99_eq(x:aM)(ho:0≤x.op∧x.op≤255):f99 x=some (fk x):=by
 unfold f99 fk
 by_cases h:1≤x.op∧x.op≤57
 ·obtain⟨r,hr⟩:=f158_eq h.1 h.2
  obtain⟨l,hl,hlen,hg⟩:=se h.1 h.2
  have hf:f186 r.fields=some l:=by
   unfold prs at hl
   rw[hr,bnS] at hl
   exact hl
  rw[hr,bnS,dcT h.1,dcT h.2]
  dsimp only
  rw[Bool.not_true,Bool.false_or,Bool.and_true,Bool.not_true,Bool.false_or]
  cases decide (x.op=27)&&decide (x.n>x.m)
  ·rw[cdF]
   cases (decide (x.op=37)&&decide ((IntKind.u8.wrap x.n)=6))&&(!decide (x.m=0))
   ·rw[cdF]
    simp only[am]
    rw[bnS,hf,bnS]
    refine(f99_l1_eq _ _ _ _ _ _ (λ_ _ _ _ _ _ _ _ _ _ _ _=>rfl) (λ_ _ _ _ _ _ _ _ _ _ _ _=>rfl) (λ_ _ _ _ _ _ _ _ _ _ _ _=>rfl) (λ_ _ _ _ _ _ _ _ _ _ _ _=>rfl) (λ_ _ _ _ _ _ _ _ _ _ _ _=>rfl) (λ_ _ _ _ _ _ _ _ _ _ _ _=>rfl) _ (by intro d a b n m to _ _;rfl) _ l hg oM _ 0 0 _ _ _ _ _ _ rfl (Nat.zero_le _) oM).trans ?_
    rw[List.drop_zero]
    unfold iy
    rw[hl]
    rfl
   ·rfl
  ·rfl
 ·have e:f158 x.op=some ((ez.mk ByteArray.empty ByteArray.empty),false):=by
   unfold f158
   have:(decide (x.op<1)||decide ((IntKind.i64.wrap x.op)>57))=true:=by
    rw[w64 oM oM,Bool.or_eq_true]
    simp only[decide_eq_true_eq]
    omega
   rw[this];rfl
  have e2:(decide (1≤x.op)&&decide (x.op≤57))=false:=by
   rw[Bool.and_eq_false_iff]
   simp only[decide_eq_false_iff_not]
   omega
  rw[e,e2];rfl
def iG(t:af)(task n:Int):Int×Bool:=match idx t.tasks task with
 |some x=>(match idx x.entries n with
  |some e=>((IntKind.i64.wrap ((IntKind.i64.wrap ((List.length e.ins:Int)+(List.length e.outs:Int)))+1)),true)
  |none=>(0,false))
 |none=>(0,false)
theorem f101_eq(t:af)(a n:Int):f101 ⟨t⟩ a n=some (iG t a n):=by
 unfold f101 iG
 dsimp only
 by_cases h:0≤a∧a<t.tasks.length
 ·obtain⟨y,hy,_⟩:=aL h
  rw[hy,dcF (show¬a<0 by omega),dcF (show¬a≥(t.tasks.length:Int) by omega)]
  dsimp only[bnS]
  by_cases h2:0≤n∧n<y.entries.length
  ·obtain⟨e,he,_⟩:=aL h2
   rw[he,dcF (show¬n<0 by omega),dcF (show¬n≥(y.entries.length:Int) by omega)]
   rfl
  ·rw[bt h2]
   by_cases h3:n<0
   ·rw[dcT h3];rfl
   ·rw[dcT (show n≥(y.entries.length:Int) by omega),dcF h3];rfl
 ·rw[bt h]
  have:(decide (a<0)||decide (a≥(t.tasks.length:Int)))=true:=by
   rw[Bool.or_eq_true]
   simp only[decide_eq_true_eq]
   omega
  rw[this];rfl
def n7(t:af)(p n:Int):Bool:=match idx t.prots p with
 |some x=>decide (0≤n)&&decide (n<(x.barriers.length:Int))
 |none=>false
theorem f102_eq(t:af)(p n:Int):f102 ⟨t⟩ p n=some (n7 t p n):=by
 unfold f102 n7
 dsimp only
 by_cases h:0≤p∧p<t.prots.length
 ·obtain⟨y,hy,_⟩:=aL h
  rw[hy,dcT (show p≥0 by omega),dcT h.2]
  by_cases h3:0≤n
  ·rw[dcT (show n≥0 from h3)];rfl
  ·rw[dcF (show¬n≥0 from h3)];rfl
 ·rw[bt h]
  have:(decide (p≥0)&&decide (p<(t.prots.length:Int)))=false:=by
   rw[Bool.and_eq_false_iff]
   simp only[decide_eq_false_iff_not]
   omega
  rw[this];rfl
def jtOk(t:af)(x:aM):Bool:=decide ((IntKind.i64.wrap (x.to+x.m))≤(t.insns.length:Int))&&(bC t.insns x.to (IntKind.i64.wrap (x.to+x.m))).all (λy=>decide (y.op=29))
def gt(t:af)(x:aM):Bool:=fk x&&
 bif decide (x.op=3)||decide (x.op=4) then spot t.objs x.n x.m 1 else
 bif decide (x.op=5)||decide (x.op=6) then spot t.objs x.n x.m x.b else
 bif decide (x.op=29)||(decide (x.op=30)||decide (x.op=31)) then at1 t x.to else
 bif decide (x.op=32) then jtOk t x else
 bif decide (x.op=33) then decide (x.n≤t.excs) else
 bif decide (x.op=44)||(decide (x.op=45)||(decide (x.op=46)||decide (x.op=56))) then decide (x.n<(t.lists.length:Int)) else
 bif decide (x.op=50) then decide (x.n<(t.selects.length:Int)) else
 bif decide (x.op=49) then(iG t x.a x.b).2&&spot t.objs x.n 0 (iG t x.a x.b).1 else
 bif decide (x.op=52) then(iG t x.a x.b).2&&decide (x.to<(t.insns.length:Int)) else
 bif decide (x.op=53)||decide (x.op=55) then decide (x.n<(t.prots.length:Int)) else
 bif decide (x.op=54) then n7 t x.n x.m else
 bif decide (x.op=43) then decide (x.m<0)||n7 t x.m x.n else true
theorem sF:iy 32=[(65,114),(78,118),(77,108),(84,115)]:=by decide+kernel
theorem pp{x:aM}(h:fk x=true)(ho:x.op=32):0≤x.to∧x.to≤65535∧1≤x.m∧x.m≤65536:=by
 unfold fk at h
 rw[ho,sF] at h
 simp only[Bool.and_eq_true] at h
 have:=h.2.2
 simp only[fl,rng,f189] at this
 simp at this
 omega
theorem qV(L:List aM)(hl:L.length<9223372036854775808):f35 L (λz0=>some (f100 z0))=some (!(L.all λy=>decide (y.op=29))):=by
 rw[f35_eq L _ f100 hl λ_ _=>rfl]
 congr 1
 induction L with
 |nil=>rfl
 |cons x L ih=>rw[List.any_cons,List.all_cons,ih (by simp at hl;omega),Bool.not_and];rfl
theorem f37_eq(t:af)(x:aM)(ho:0≤x.op∧x.op≤255)(hl:t.insns.length≤65536):f37 ⟨t⟩ x=some (gt t x):=by
 unfold f37 gt
 rw[f99_eq x ho,bnS]
 cases hm:fk x
 ·rfl
 ·simp only[am,f89_eq,f47_eq,f101_eq,f102_eq,bnS]
  rw[Bool.not_true,cdF,Bool.true_and]
  cases decide (x.op=3)
  ·cases decide (x.op=4)
   ·cases decide (x.op=5)
    ·cases decide (x.op=6)
     ·cases decide (x.op=29)
      ·cases decide (x.op=30)
       ·cases decide (x.op=31)
        ·cases h32:decide (x.op=32)
         ·cases decide (x.op=33)
          ·cases decide (x.op=44)
           ·cases decide (x.op=45)
            ·cases decide (x.op=46)
             ·cases decide (x.op=56)
              ·cases decide (x.op=50)
               ·cases decide (x.op=49)
                ·cases decide (x.op=52)
                 ·cases decide (x.op=53)
                  ·cases decide (x.op=55)
                   ·cases decide (x.op=54)
                    ·cases decide (x.op=43)
                     ·rfl
                     ·cases decide (x.m<0)<;>rfl
                    ·rfl
                   ·rfl
                  ·rfl
                 ·rfl
                ·cases (iG t x.a x.b).2<;>rfl
               ·rfl
              ·rfl
             ·rfl
            ·rfl
           ·rfl
          ·rfl
         ·obtain⟨a1,a2,a3,a4⟩:=pp hm (of_decide_eq_true h32)
          unfold jtOk
          dsimp only[cdT,cdF,Bool.or_false]
          by_cases h4:(IntKind.i64.wrap (x.to+x.m))≤(t.insns.length:Int)
          ·rw[dcT h4,cdT]
           rw[w64 oM oM] at h4
           rw[w64 oM oM,k9 _ (by simp[dL];omega),qV _ (by simp[bC];omega),bnS,Bool.not_not]
           rfl
          ·rw[dcF h4];rfl
        ·rfl
       ·rfl
      ·rfl
     ·rfl
    ·rfl
   ·rfl
  ·rfl
structure Sz(t:af):Prop where
 ops:∀x∈t.insns,0≤x.op∧x.op≤255
 inits:t.inits.length<9223372036854775808
 sets:∀o∈t.objs,o.set_.length<9223372036854775808
 lists:∀l∈t.lists,l.length<9223372036854775808
 prots:t.prots.length<9223372036854775808
 checks:t.checks.length<9223372036854775808
theorem f10_l1_eq(t:af)(k:Int→Option Bool)(a b:Option Bool)(ha:∀i:Int,0≤i→k i=a)(ho:∀x∈t.insns,0≤x.op∧x.op≤255)(hl:t.insns.length≤65536):∀(n i:Nat)(z:Int),z=(i:Int)→i≤t.insns.length→t.insns.length<n+i→
  f10_l1 t k (λ_=>b) n z=bif (t.insns.drop i).all (gt t) then b else a
 |0,i,z,_,_,h=>oM
 |n+1,i,z,hz,hi,h=>by
  subst hz
  rw[f10_l1]
  by_cases hh:i<t.insns.length
  ·rw[ay hh,List.all_cons,dcT (by omega:(i:Int)<(t.insns.length:Int)),cdT,au hh,bnS,am,f37_eq t _ (ho _ (List.getElem_mem hh)) hl,bnS]
   cases gt t t.insns[i]
   ·exact ha _ oM
   ·dsimp only
    rw[Bool.not_true,cdF,w64 oM oM,f10_l1_eq t k a b ha ho hl n (i+1) _ (by push_cast;rfl) oM oM,Bool.true_and]
  ·rw[dcF (by omega:¬(i:Int)<(t.insns.length:Int)),cdF,List.drop_eq_nil_of_le oM]
   rfl
def jV(x:aM):Bool:=decide (x.op=29)||(decide (x.op=33)||(decide (x.op=34)||decide (x.op=57)))
def nf(t:af):Bool:=match idx t.insns ((t.insns.length:Int) - 1) with
 |some x=>jV x
 |none=>false
def ot(t:af):Bool:= !(decide ((t.insns.length:Int)<1)||decide ((t.insns.length:Int)>65536))&&(nf t&&(gJ t&&(cA t&&(fg t&&(fc t&&(ie t&&(iu t&&(mm t&&(fW t (-1) t.checks&&t.insns.all (gt t))))))))))
theorem f10_eq(t:af)(h:Sz t):f10 t=some (ot t):=by
 unfold f10 ot
 cases h1:decide ((t.insns.length:Int)<1)||decide ((t.insns.length:Int)>65536)
 ·have hol:(1:Int)≤t.insns.length∧(t.insns.length:Int)≤65536:=by
   simp only[Bool.or_eq_false_iff,decide_eq_false_iff_not] at h1
   omega
  obtain⟨x,hx,_⟩:=aL (L:=t.insns) (i:=(t.insns.length:Int) - 1) oM
  unfold nf
  rw[cdF,w64 oM oM,hx,bnS]
  simp only[am]
  rw[f27_eq t h.inits h.sets,f28_eq,f29_eq t h.lists,f30_eq t h.prots,f31_eq,f32_eq,f33_eq,f34_eq t h.checks]
  rw[f10_l1_eq t _ (some false) _ (λi h0=>by rw[dcT (show i≥0 from h0)];rfl) h.ops oM _ 0 0 rfl (Nat.zero_le _) oM,List.drop_zero]
  unfold jV
  generalize gJ t=b1,cA t=b2,fg t=b3,fc t=b4,ie t=b5,iu t=b6,mm t=b7,fW t (-1) t.checks=b8,t.insns.all (gt t)=b9
  have key:∀b:Bool,(bif b then(some b1).bind λr69=>bif !r69 then some false else(some b2).bind λr70=>bif !r70 then some false else(some b3).bind λr71=>bif !r71 then some false else(some b4).bind λr72=>bif !r72 then some false else(some b5).bind λr73=>bif !r73 then some false else(some b6).bind λr74=>bif !r74 then some false else(some b7).bind λr75=>bif !r75 then some false else(some b8).bind λr76=>bif !r76 then some false else bif b9 then some (!decide ((-1:Int)≥0)) else some false else some false)=some (b&&(b1&&(b2&&(b3&&(b4&&(b5&&(b6&&(b7&&(b8&&b9))))))))):=by
   intro b
   cases b
   ·rfl
   ·cases b1
    ·rfl
    ·cases b2
     ·rfl
     ·cases b3
      ·rfl
      ·cases b4
       ·rfl
       ·cases b5
        ·rfl
        ·cases b6
         ·rfl
         ·cases b7
          ·rfl
          ·cases b8
           ·rfl
           ·cases b9<;>rfl
  cases decide (x.op=29)
  ·cases decide (x.op=33)
   ·cases decide (x.op=34)
    ·exact key _
    ·exact key true
   ·exact key true
  ·exact key true
 ·rfl
structure VT(t:af):Prop where
 sz:Sz t
 n:1≤t.insns.length∧t.insns.length≤65536
 objs:t.objs.length≤4096
 excs:4≤t.excs∧t.excs≤64
 obj:∀o∈t.objs,cN t.objs o=true
 inits:bX t.objs [] t.inits=true
 hdls:t.handlers.length≤4096
 fits:∀x∈t.insns,gt t x=true
 last:nf t=true
 hok:dN t [] t.handlers=true
def iniV(o:Obj):Int:=bif fits o 0 then 0 else o.lo
def su(o:Obj):List Int:=List.replicate o.size.toNat (iniV o)
def putI(S:List (List Int))(x:cw):List (List Int):=S.set x.o.toNat (((S[x.o.toNat]?).getD []).set x.slot.toNat x.v)
def store(t:af):List (List Int):=t.inits.foldl putI (t.objs.map su)
theorem f46_l1_eq(o:Obj)(v:Int)(r:Option Bool)(hl:o.set_.length<9223372036854775808):∀(n i:Nat)(z:Int),z=(i:Int)→i≤o.set_.length→o.set_.length<n+i→
  f46_l1 o v (λ_=>r) n z=bif (o.set_.drop i).any (λx=>f113 x v) then some true else r
 |0,i,z,_,_,h=>oM
 |n+1,i,z,hz,hi,h=>by
  subst hz
  rw[f46_l1]
  by_cases hh:i<o.set_.length
  ·rw[ay hh,List.any_cons,dcT (by omega:(i:Int)<(o.set_.length:Int)),cdT,au hh,bnS,w64 (x:=(i:Int)+1) oM oM,f46_l1_eq o v r hl n (i+1) _ (by push_cast;rfl) oM oM]
   have e:f113 o.set_[i] v=decide (v=IntKind.i64.wrap (o.set_[i]+1)):=by
    unfold f113
    by_cases hv:v=IntKind.i64.wrap (o.set_[i]+1)
    ·rw[dcT hv,dcT hv.symm]
    ·rw[dcF hv,dcF λh=>hv h.symm]
   rw[e]
   cases decide (v=IntKind.i64.wrap (o.set_[i]+1))<;>rfl
  ·rw[dcF (by omega:¬(i:Int)<(o.set_.length:Int)),cdF,List.drop_eq_nil_of_le oM]
   rfl
theorem f46_eq(o:Obj)(v:Int)(hl:o.set_.length<9223372036854775808):f46 o v=some (fits o v):=by
 unfold f46 fits
 cases o.ptr
 ·rfl
 ·rw[Bool.not_true,cdF,cdT,am,f46_l1_eq o v _ hl _ 0 0 rfl (Nat.zero_le _) oM,List.drop_zero]
  cases o.set_.any (λn=>f113 n v)<;>cases decide (v=0)<;>rfl
def me(os:List Obj)(L:List Int):Nat→List Int→Bool
 |_,[]=>true
 |i,x::r=>(decide (0≤x)&&aim os x&&(bif Nat.beq i 0 then true else decide ((L[i - 1]?).getD 0<x)))&&me os L (i+1) r
theorem pO{os:List Obj}{x:Int}:aim os x=true→0≤x∧x<os.length:=λh=>by
 unfold aim at h
 cases hx:idx os x with
 |none=>rw[hx] at h;cases h
 |some y=>exact it hx
theorem qc(os:List Obj)(L:List Int):∀(i:Nat),i≤L.length→me os L i (L.drop i)=eO os (if i=0 then -1 else(L[i - 1]?).getD 0) (L.drop i)∨∃j,j<i∧(L[j]?).getD 0<0:=by
 intro i hi
 generalize hk:L.length - i=k
 induction k generalizing i with
 |zero=>
  left
  rw[List.drop_eq_nil_of_le oM];rfl
 |succ k ih=>
  have hh:i<L.length:=oM
  rw[ay hh]
  have hg:(L[i]?).getD 0=L[i]:=by rw[geG hh];rfl
  rcases ih (i+1) oM oM with h|⟨j,hj,hn⟩
  ·left
   rw[if_neg oM,Nat.add_sub_cancel,hg] at h
   unfold me eO
   rw[h]
   by_cases h0:i=0
   ·subst h0
    rw[if_pos rfl]
    show((decide ((0:Int)≤L[0])&&aim os L[0]&&true)&&_)=_
    by_cases hx:(0:Int)≤L[0]
    ·rw[dcT hx,dcT (show(-1:Int)<L[0] by omega),Bool.and_true]
    ·rw[dcF hx,dcF (show¬(-1:Int)<L[0] by omega)];rfl
   ·rw[if_neg h0]
    have hb:Nat.beq i 0=false:=by
     cases i with
     |zero=>exact absurd rfl h0
     |succ i=>rfl
    rw[hb,cdF]
    by_cases ha:aim os L[i]=true
    ·have:=pO ha
     rw[ha,dcT this.1]
     cases decide ((L[i - 1]?).getD 0<L[i])<;>rfl
    ·have ha:aim os L[i]=false:=by simpa using ha
     rw[ha];simp
  ·by_cases hji:j=i
   ·subst hji
    left
    rw[hg] at hn
    unfold me eO
    rw[dcF (show¬0≤L[j] by omega)]
    have ha:aim os L[j]=false:=by
     cases ha:aim os L[j]
     ·rfl
     ·have:=pO ha;omega
    rw[ha];simp
   ·exact .inr ⟨j,oM,hn⟩
theorem f103_l1_eq(t:af)(o:Obj)(r:Option Bool)(hl:o.set_.length<9223372036854775808):∀(n i:Nat)(z:Int),z=(i:Int)→i≤o.set_.length→o.set_.length<n+i→
  f103_l1 t o (λ_=>r) n z=bif me t.objs o.set_ i (o.set_.drop i) then r else some false
 |0,i,z,_,_,h=>oM
 |n+1,i,z,hz,hi,h=>by
  subst hz
  rw[f103_l1]
  by_cases hh:i<o.set_.length
  ·rw[ay hh,me,dcT (by omega:(i:Int)<(o.set_.length:Int)),cdT,au hh,bnS,w64 (x:=(i:Int)+1) oM oM,f103_l1_eq t o r hl n (i+1) _ (by push_cast;rfl) oM oM]
   have hprev:i≠0→idx o.set_ (IntKind.i64.wrap ((i:Int) - 1))=some ((o.set_[i - 1]?).getD 0):=λh0=>by
    rw[w64 oM oM,show(i:Int) - 1=((i - 1:Nat):Int) by omega,au oM,geG oM];rfl
   generalize hx:o.set_[i]=x
   unfold aim
   by_cases h1:0≤x∧x<t.objs.length
   ·obtain⟨y,hy,_⟩:=aL h1
    rw[dcF (show¬x<0 by omega),dcF (show¬x≥(t.objs.length:Int) by omega),dcT h1.1,hy]
    simp only[Bool.or_self,cdF,bnS]
    by_cases h2:y.size=1
    ·rw[dcT h2]
     cases h3:y.ptr
     ·simp only[Bool.not_true,Bool.not_false,cdF,bnS,Bool.and_self,Bool.true_and]
      by_cases h0:i=0
      ·subst h0;rfl
      ·rw[dcT (by omega:(i:Int)>0),cdT,hprev h0]
       have hb:Nat.beq i 0=false:=by
        cases i with
        |zero=>exact absurd rfl h0
        |succ i=>rfl
       rw[hb,cdF]
       simp only[bnS]
       by_cases h4:(o.set_[i - 1]?).getD 0<x
       ·rw[dcT h4,dcF oM];rfl
       ·rw[dcF h4,dcT oM];rfl
     ·rfl
    ·rw[dcF h2];rfl
   ·rw[bt h1]
    have:(decide (x<0)||decide (x≥(t.objs.length:Int)))=true:=by
     rw[Bool.or_eq_true];simp only[decide_eq_true_eq];omega
    rw[this];simp
  ·rw[dcF (by omega:¬(i:Int)<(o.set_.length:Int)),cdF,List.drop_eq_nil_of_le oM]
   rfl
theorem f103_eq(t:af)(o:Obj)(hl:o.set_.length<9223372036854775808):f103 t o=some (cN t.objs o):=by
 unfold f103 cN
 rw[am,f103_l1_eq t o _ hl _ 0 0 rfl (Nat.zero_le _) oM,List.drop_zero]
 have hs:me t.objs o.set_ 0 o.set_=eO t.objs (-1) o.set_:=by
  rcases qc t.objs o.set_ 0 (Nat.zero_le _) with h|⟨j,hj,_⟩
  ·simpa using h
  ·omega
 rw[hs]
 cases (decide (o.size<1)||decide (o.size>16384))||decide (o.lo>o.hi)
 ·cases o.ptr
  ·by_cases h0:(o.set_.length:Int)=0
   ·rw[dcT h0,dcF (show¬(o.set_.length:Int)>0 by omega)]
    have:o.set_=[]:=List.length_eq_zero_iff.1 oM
    rw[this];rfl
   ·rw[dcF h0,dcT (show(o.set_.length:Int)>0 by omega)];rfl
  ·cases decide (o.lo=0)<;>cases decide (o.hi=0)<;>cases eO t.objs (-1) o.set_<;>cases decide ((o.set_.length:Int)>0)<;>rfl
 ·rfl
theorem f104_eq(t:af)(o f m:Int)(hm:0≤m):f104 t o f m=some (spot t.objs o f m):=by
 unfold f104 spot
 by_cases h:0≤o∧o<t.objs.length
 ·obtain⟨x,hx,_⟩:=aL h
  rw[hx,dcT (show o≥0 from h.1),dcT h.2,dcT (show m≥0 from hm)]
  by_cases hf:0≤f
  ·rw[dcT (show f≥0 from hf)];rfl
  ·rw[dcF (show¬f≥0 from hf)];rfl
 ·rw[bt h]
  have:(decide (o≥0)&&decide (o<(t.objs.length:Int)))=false:=by
   rw[Bool.and_eq_false_iff]
   simp only[decide_eq_false_iff_not]
   omega
  rw[this];rfl
theorem f38_l1_eq(t:af)(k:Int→Option Bool)(hl:t.objs.length<9223372036854775808)(hs:∀o∈t.objs,o.set_.length<9223372036854775808):∀(n i:Nat)(z a:Int),z=(i:Int)→i≤t.objs.length→t.objs.length<n+i→
  f38_l1 t k n a z=bif (t.objs.drop i).all (cN t.objs) then k (jM a (t.objs.drop i)) else some false
 |0,i,z,a,_,_,h=>oM
 |n+1,i,z,a,hz,hi,h=>by
  subst hz
  rw[f38_l1]
  by_cases hh:i<t.objs.length
  ·rw[ay hh,List.all_cons,dcT (by omega:(i:Int)<(t.objs.length:Int)),cdT,au hh,bnS,f103_eq t _ (hs _ (List.getElem_mem _)),bnS,w64 (x:=(i:Int)+1) oM oM,bnS]
   cases hc:cN t.objs t.objs[i]
   ·rfl
   ·rw[Bool.not_true,cdF,Bool.true_and,f38_l1_eq t k hl hs n (i+1) _ _ (by push_cast;rfl) oM oM]
    rfl
  ·rw[dcF (by omega:¬(i:Int)<(t.objs.length:Int)),cdF,List.drop_eq_nil_of_le oM]
   rfl
def neI(x y:cw):Bool:= !(decide (y.o=x.o)&&decide (y.slot=x.slot))
def eg(os:List Obj):List cw→List cw→Bool
 |_,[]=>true
 |P,x::r=>(cK os x&&P.all (neI x))&&eg os (P++ [x]) r
theorem f38_l3_eq(t:af)(j:Nat)(x:cw)(r:Option Bool)(hj:j≤t.inits.length)(hl:t.inits.length<9223372036854775808):∀(n i:Nat)(z:Int),z=(i:Int)→i≤j→j<n+i→
  f38_l3 t (j:Int) (λ_ _ _=>r) x n z=bif ((t.inits.take j).drop i).all (neI x) then r else some false
 |0,i,z,_,_,h=>oM
 |n+1,i,z,hz,hi,h=>by
  subst hz
  rw[f38_l3]
  have hL:(t.inits.take j).length=j:=by rw[List.length_take];omega
  by_cases hh:i<j
  ·have e:(t.inits.take j)[i]'oM=t.inits[i]'oM:=List.getElem_take
   rw[ay (L:=t.inits.take j) (i:=i) oM,List.all_cons,e,dcT (by omega:(i:Int)<(j:Int)),cdT,au (show i<t.inits.length by omega),bnS,w64 oM oM,f38_l3_eq t j x r hj hl n (i+1) _ (by push_cast;rfl) oM oM]
   generalize t.inits[i]'oM=y
   unfold neI
   rw[bnS]
   cases decide (y.o=x.o)<;>cases decide (y.slot=x.slot)<;>rfl
  ·rw[dcF (by omega:¬(i:Int)<(j:Int)),cdF,List.drop_eq_nil_of_le oM]
   rfl
theorem f38_l2_eq(t:af)(r:Option Bool)(hl:t.inits.length<9223372036854775808)(hs:∀o∈t.objs,o.set_.length<9223372036854775808):∀(n i:Nat)(z:Int),z=(i:Int)→i≤t.inits.length→t.inits.length<n+i→
  f38_l2 t (λ_=>r) n z=bif eg t.objs (t.inits.take i) (t.inits.drop i) then r else some false
 |0,i,z,_,_,h=>oM
 |n+1,i,z,hz,hi,h=>by
  subst hz
  rw[f38_l2]
  by_cases hh:i<t.inits.length
  ·rw[ay hh,eg,←List.take_succ_eq_append_getElem hh,dcT (by omega:(i:Int)<(t.inits.length:Int)),cdT,am,au hh,bnS,f104_eq _ _ _ _ oM,bnS,w64 oM oM,f38_l2_eq t r hl hs n (i+1) _ (by push_cast;rfl) oM oM]
   rw[f38_l3_eq t i _ _ oM hl _ 0 0 rfl (Nat.zero_le _) oM,List.drop_zero]
   generalize t.inits[i]=x
   unfold cK
   cases hsp:spot t.objs x.o x.slot 1
   ·rfl
   ·obtain⟨y,hy,_⟩:=fH hsp
    rw[hy]
    simp only[Bool.not_true,bnS,cdF,Bool.true_and]
    rw[f46_eq _ _ (hs _ (gY hy))]
    simp only[bnS]
    cases fits y x.v<;>cases (t.inits.take i).all (neI x)<;>rfl
  ·rw[dcF (by omega:¬(i:Int)<(t.inits.length:Int)),cdF,List.drop_eq_nil_of_le oM]
   rfl
theorem nZ(P:List cw)(m:List ((Int×Int)×Bool))(x:cw):inM (P.foldl (λm x=>ba m (x.o,x.slot) true) m) (x.o,x.slot)=(inM m (x.o,x.slot)|| !(P.all (neI x))):=by
 induction P generalizing m with
 |nil=>simp
 |cons y P ih=>
  rw[List.foldl_cons,ih,jX,List.all_cons]
  have:decide ((y.o,y.slot)=(x.o,x.slot))= !(neI x y):=by
   unfold neI
   rw[Bool.not_not]
   by_cases h1:y.o=x.o
   ·by_cases h2:y.slot=x.slot
    ·simp[h1,h2]
    ·simp[h1,h2]
   ·simp[h1]
  rw[this]
  cases neI x y<;>cases inM m (x.o,x.slot)<;>simp
theorem jp(os:List Obj):∀(r P:List cw),eg os P r=bX os (P.foldl (λm x=>ba m (x.o,x.slot) true) []) r
 |[],P=>rfl
 |x::r,P=>by
  rw[eg,bX,jp os r (P++ [x]),List.foldl_append,nZ]
  have e:inM ([]:List ((Int×Int)×Bool)) (x.o,x.slot)=false:=rfl
  rw[e,Bool.false_or,Bool.not_not]
  simp only[List.foldl_cons,List.foldl_nil]
  cases cK os x<;>cases P.all (neI x)<;>rfl
theorem sW{α:Type}(xs:List α)(F:Nat→Int→Option Bool)(k:Option Bool)(p:α→Bool)(hl:xs.length<9223372036854775808)
  (h0:∀n (i:Nat)(h:i<xs.length),F (n+1) (i:Int)=bif p xs[i] then F n ((i+1:Nat):Int) else some false)
  (h1:∀n,F (n+1) (xs.length:Int)=k):∀(n i:Nat)(z:Int),z=(i:Int)→i≤xs.length→xs.length<n+i→F n z=bif (xs.drop i).all p then k else some false
 |0,i,z,_,_,h=>oM
 |n+1,i,z,hz,hi,h=>by
  subst hz
  by_cases hh:i<xs.length
  ·rw[ay hh,List.all_cons,h0 n i hh,sW xs F k p hl h0 h1 n (i+1) _ rfl oM oM]
   cases p xs[i]<;>rfl
  ·have e:i=xs.length:=oM
   subst e
   rw[h1,List.drop_eq_nil_of_le (Nat.le_refl _)];rfl
theorem eW{α:Type}(xs:List α)(F:Nat→Int→Option Bool)(k:Option Bool)(p:α→Bool)(n:Nat)(hn:n=9223372036854775808)(hl:xs.length<9223372036854775808)
  (h0:∀n (i:Nat)(h:i<xs.length),F (n+1) (i:Int)=bif p xs[i] then F n ((i+1:Nat):Int) else some false)
  (h1:∀n,F (n+1) (xs.length:Int)=k):F n 0=bif xs.all p then k else some false:=by
 rw[sW xs F k p hl h0 h1 n 0 0 rfl (Nat.zero_le _) oM,List.drop_zero]
theorem eK{i n:Nat}(h:i<n):decide ((i:Int)<(n:Int))=true:=dcT oM
theorem dM{n:Nat}:decide ((n:Int)<(n:Int))=false:=dcF oM
theorem w1{i n:Nat}(h:i<n)(hl:n<9223372036854775808):IntKind.i64.wrap ((i:Int)+1)=((i+1:Nat):Int):=by rw[w64 oM oM];push_cast;rfl
theorem f105_eq(t:af)(l:List Int):f105 t l=some (cr t.objs l):=by
 unfold f105 cr
 by_cases h:(l.length:Int)≤8
 ·rw[dcT h,dcF (by omega:¬(l.length:Int)>8),cdF,am,
   eW l (f105_l1 t l λ_=>some true) (some true) (mi t.objs) _ rfl oM (λn i hi=>by
    rw[f105_l1,eK hi,cdT,au hi,bnS,w1 hi oM]
    generalize l[i]=x
    unfold mi
    by_cases hx:0≤x∧x<t.objs.length
    ·obtain⟨y,hy,_⟩:=aL hx
     rw[hy,dcF (show¬x<0 by omega)]
     simp only[cdF,bnS]
     rw[dcF (show¬x≥(t.objs.length:Int) by omega),cdF,hy,bnS]
     cases decide (y.size=1)<;>rfl
    ·rw[bt hx]
     by_cases h1:x<0
     ·rw[dcT h1];rfl
     ·rw[dcF h1]
      simp only[cdF,bnS]
      rw[dcT (show x≥(t.objs.length:Int) by omega)];rfl) (λn=>by rw[f105_l1,dM,cdF])]
  cases l.all (mi t.objs)<;>rfl
 ·rw[dcF h,dcT (by omega:(l.length:Int)>8)];rfl
theorem f39_eq(t:af):f39 t=some (cA t):=by
 unfold f39 cA
 cases h1:(decide ((t.tasks.length:Int)<1)||decide ((t.tasks.length:Int)>32))
 ·have hl:(t.tasks.length:Int)≤32:=by
   simp only[Bool.or_eq_false_iff,decide_eq_false_iff_not] at h1
   omega
  rw[cdF,am,eW t.tasks (f39_l1 t λ_=>some true) (some true) (dK t) _ rfl oM (λn i hi=>by
   rw[f39_l1,eK hi,cdT,am,au hi,bnS,w1 hi oM]
   generalize t.tasks[i]=x
   unfold dK
   have hat:f51 t x.at_=at1 t x.at_:=rfl
   rw[hat]
   cases hc:(((((decide (x.prio<0)||decide (x.prio>31))||(!(at1 t x.at_)))||decide (x.deadline<0))||decide (x.deadline>2147483647))||decide ((x.entries.length:Int)>8))
   ·have he:(x.entries.length:Int)≤8:=by
     simp only[Bool.or_eq_false_iff,decide_eq_false_iff_not] at hc
     omega
    rw[cdF,eW x.entries (f39_l2 t (λ_ _ _ _=>f39_l1 t (λ_=>some true) n ((i+1:Nat):Int)) x) (f39_l1 t (λ_=>some true) n ((i+1:Nat):Int)) (cD t.objs) _ rfl oM (λm j hj=>by
     rw[f39_l2,eK hj,cdT,au hj,bnS,w1 hj oM,f105_eq,bnS,bnS,f105_eq]
     unfold cD
     cases cr t.objs x.entries[j].ins<;>cases cr t.objs x.entries[j].outs<;>rfl) (λm=>by rw[f39_l2,dM,cdF])]
    cases x.entries.all (cD t.objs)<;>rfl
   ·rfl) (λn=>by rw[f39_l1,dM,cdF])]
  cases t.tasks.all (dK t)<;>rfl
 ·rfl
theorem qf(a b:Int)(ha: -9223372036854775808≤a∧a≤9223372036854775807)(hb: -9223372036854775808≤b∧b≤9223372036854775807):
  decide ((IntKind.i64.wrap (BitVec.ofInt IntKind.i64.bits a|||BitVec.ofInt IntKind.i64.bits b).toNat)=0)=(decide (a=0)&&decide (b=0)):=by
 have hz:∀x:BitVec 64,IntKind.i64.wrap (x.toNat:Int)=0↔x=0#64:=λx=>by
  have:=x.isLt
  rw[IntKind.wrap_i64]
  constructor
  ·intro h
   apply BitVec.eq_of_toNat_eq
   show x.toNat=0
   omega
  ·intro h
   have:x.toNat=0:=by rw[h];rfl
   omega
 have hf:∀a:Int, -9223372036854775808≤a∧a≤9223372036854775807→(BitVec.ofInt 64 a=0#64↔a=0):=λa ha=>by
  constructor
  ·intro h
   have:=congrArg BitVec.toNat h
   rw[BitVec.toNat_ofInt] at this
   have e:(0#64).toNat=0:=rfl
   rw[e] at this
   omega
  ·intro h
   rw[h];rfl
 have e:(IntKind.i64.wrap (BitVec.ofInt IntKind.i64.bits a|||BitVec.ofInt IntKind.i64.bits b).toNat=0)↔(a=0∧b=0):=(hz _).trans (BitVec.or_eq_zero_iff.trans (and_congr (hf a ha) (hf b hb)))
 rw[decide_eq_decide.2 e,Bool.decide_and]
theorem rj(t:af)(o:Int)(a:fu)(h1: -9223372036854775808≤a.entry∧a.entry≤9223372036854775807)(h2: -9223372036854775808≤a.time∧a.time≤9223372036854775807):f107 t o a=some (d3 t o a):=by
 unfold f107 d3
 rw[qf _ _ h1 h2,f104_eq t o a.guard 1 oM,f104_eq t o a.time 1 oM]
 have hat:f51 t a.at_=at1 t a.at_:=rfl
 have h8:decide (a.entry≤7)=decide (a.entry<8):=by
  by_cases h:a.entry≤7
  ·rw[dcT h,dcT oM]
  ·rw[dcF h,dcF oM]
 rw[hat,h8]
 simp only[am,bnS]
 cases at1 t a.at_
 ·rfl
 ·cases decide (a.guard= -1)
  ·cases spot t.objs o a.guard 1
   ·rfl
   ·cases decide (a.kind=1)
    ·cases decide (a.kind=2)<;>cases decide (a.kind=3)<;>cases decide (a.kind=4)<;>cases decide (a.entry=0)<;>cases decide (a.time=0)<;>rfl
    ·rfl
  ·cases decide (a.kind=1)
   ·cases decide (a.kind=2)<;>cases decide (a.kind=3)<;>cases decide (a.kind=4)<;>cases decide (a.entry=0)<;>cases decide (a.time=0)<;>rfl
   ·rfl
theorem nS{os:List Obj}{o:Int}(hp:∀y,idx os o=some y→1≤y.size∧y.size≤65536):spot os o 0 1=(decide (0≤o)&&decide (o<(os.length:Int))):=by
 unfold spot
 by_cases h:0≤o∧o<os.length
 ·obtain⟨x,hx,_⟩:=aL h
  have:=hp x hx
  rw[hx,dcT h.1,dcT h.2]
  dsimp only
  rw[w64 oM oM]
  simp;omega
 ·rw[bt h]
  dsimp only
  by_cases h1:0≤o
  ·rw[dcF (show¬o<(os.length:Int) by omega),Bool.and_false]
  ·rw[dcF h1];rfl
theorem f41_l2_eq(t:af)(x:bI)(r:Option Bool)(ha:∀a∈x.alts,(-9223372036854775808≤a.entry∧a.entry≤9223372036854775807)∧-9223372036854775808≤a.time∧a.time≤9223372036854775807)(hl:x.alts.length<9223372036854775808)(n:Nat)(hn:n=9223372036854775808):
  f41_l2 t (λ_ _ _=>r) x n 0=bif x.alts.all (d3 t x.obj) then r else some false:=
 eW x.alts (f41_l2 t (λ_ _ _=>r) x) r (d3 t x.obj) n hn hl (λm j hj=>by
  have:=ha _ (List.getElem_mem hj)
  rw[f41_l2,eK hj,cdT,au hj,bnS,w1 hj hl,rj _ _ _ this.1 this.2,bnS]
  cases d3 t x.obj x.alts[j]<;>rfl) (λm=>by rw[f41_l2,dM,cdF])
def fd{α:Type}(q:List α→α→Bool):List α→List α→Bool
 |_,[]=>true
 |P,x::r=>q P x&&fd q (P++ [x]) r
theorem rB{α:Type}(xs:List α)(F:Nat→Int→Option Bool)(k:Option Bool)(q:List α→α→Bool)(hl:xs.length<9223372036854775808)
  (h0:∀n (i:Nat)(h:i<xs.length),F (n+1) (i:Int)=bif q (xs.take i) xs[i] then F n ((i+1:Nat):Int) else some false)
  (h1:∀n,F (n+1) (xs.length:Int)=k):∀(n i:Nat)(z:Int),z=(i:Int)→i≤xs.length→xs.length<n+i→F n z=bif fd q (xs.take i) (xs.drop i) then k else some false
 |0,i,z,_,_,h=>oM
 |n+1,i,z,hz,hi,h=>by
  subst hz
  by_cases hh:i<xs.length
  ·rw[ay hh,fd,←List.take_succ_eq_append_getElem hh,h0 n i hh,rB xs F k q hl h0 h1 n (i+1) _ rfl oM oM]
   cases q (xs.take i) xs[i]<;>rfl
  ·have e:i=xs.length:=oM
   subst e
   rw[h1,List.drop_eq_nil_of_le (Nat.le_refl _)];rfl
theorem mZ{α:Type}(xs:List α)(F:Nat→Int→Option Bool)(k:Option Bool)(q:List α→α→Bool)(n:Nat)(hn:n=9223372036854775808)(hl:xs.length<9223372036854775808)
  (h0:∀n (i:Nat)(h:i<xs.length),F (n+1) (i:Int)=bif q (xs.take i) xs[i] then F n ((i+1:Nat):Int) else some false)
  (h1:∀n,F (n+1) (xs.length:Int)=k):F n 0=bif fd q [] xs then k else some false:=by
 rw[rB xs F k q hl h0 h1 n 0 0 rfl (Nat.zero_le _) oM,List.drop_zero,List.take_zero]
theorem l8{α:Type}(xs:List α)(j:Nat)(hj:j≤xs.length)(F:Nat→Int→Option Bool)(k:Option Bool)(p:α→Bool)(n:Nat)(hn:n=9223372036854775808)(hl:xs.length<9223372036854775808)
  (h0:∀n (i:Nat)(h:i<xs.length),i<j→F (n+1) (i:Int)=bif p xs[i] then F n ((i+1:Nat):Int) else some false)
  (h1:∀n,F (n+1) (j:Int)=k):F n 0=bif (xs.take j).all p then k else some false:=by
 have hL:(xs.take j).length=j:=by rw[List.length_take];omega
 refine eW (xs.take j) F k p n hn oM (λm i h=>?_) (λm=>by rw[hL];exact h1 m)
 rw[h0 m i oM oM,List.getElem_take]
def kY(n:Int)(P:List Int)(x:Int):Bool:= !(decide (x<1)||decide (x≥n))&&P.all λy=> !(decide (y=x))
theorem pn(P:List Int)(m:List (Int×Bool))(x:Int):inM (P.foldl (λm x=>ba m x true) m) x=(inM m x|| !(P.all λy=> !(decide (y=x)))):=by
 induction P generalizing m with
 |nil=>simp
 |cons y P ih=>
  rw[List.foldl_cons,ih,jX,List.all_cons]
  cases decide (y=x)<;>cases inM m x<;>simp
theorem kX(n:Int):∀(r P:List Int),fd (kY n) P r=du n (P.foldl (λm x=>ba m x true) []) r
 |[],P=>rfl
 |x::r,P=>by
  rw[fd,du,kX n r (P++ [x]),List.foldl_append,pn]
  have e:inM ([]:List (Int×Bool)) x=false:=rfl
  rw[e,Bool.false_or,kY]
  simp only[List.foldl_cons,List.foldl_nil]
  cases (decide (x<1)||decide (x≥n))<;>cases (P.all λy=> !(decide (y=x)))<;>rfl
theorem f41_l4_eq(t:af)(l:List Int)(r:Option Bool)(hl:l.length<9223372036854775808)(n:Nat)(hn:n=9223372036854775808):
  f41_l4 t (λ_=>r) l n 0=bif du t.tasks.length [] l then r else some false:=by
 rw[show du (t.tasks.length:Int) [] l=fd (kY t.tasks.length) [] l from(kX _ l []).symm]
 refine mZ l (f41_l4 t (λ_=>r) l) r (kY t.tasks.length) n hn hl (λm i hi=>?_) (λm=>by rw[f41_l4,dM,cdF])
 rw[f41_l4,eK hi,cdT,am,au hi,bnS,w1 hi hl,bnS]
 unfold kY
 rw[l8 l i oM (f41_l5 l (i:Int) λ_=>f41_l4 t (λ_=>r) l m ((i+1:Nat):Int)) (f41_l4 t (λ_=>r) l m ((i+1:Nat):Int)) (λy=> !(decide (y=l[i]))) _ rfl hl (λm' j hj hji=>by
  rw[f41_l5,dcT (by omega:(j:Int)<(i:Int)),cdT,au hj,bnS,au hi,bnS,w1 hj hl]
  cases decide (l[j]=l[i])<;>rfl) (λm'=>by rw[f41_l5,dM,cdF])]
 cases decide (l[i]<1)<;>cases decide (l[i]≥(t.tasks.length:Int))<;>cases ((l.take i).all λy=> !(decide (y=l[i])))<;>rfl
theorem f41_l3_eq(t:af)(r:Option Bool)(hl:t.lists.length<9223372036854775808)(n:Nat)(hn:n=9223372036854775808):
  f41_l3 t (λ_=>r) n 0=bif t.lists.all (gL t) then r else some false:=by
 refine eW t.lists (f41_l3 t λ_=>r) r (gL t) n hn hl (λm i hi=>?_) (λm=>by rw[f41_l3,dM,cdF])
 rw[f41_l3,eK hi,cdT,am,au hi,bnS,w1 hi hl]
 generalize t.lists[i]=x
 unfold gL
 by_cases h:(x.length:Int)>32
 ·rw[dcT h,Bool.not_true,Bool.and_false];rfl
 ·rw[dcF h,cdF,f41_l4_eq t x _ oM _ rfl]
  cases du t.tasks.length [] x<;>rfl
structure SzA(t:af):Prop where
 alts:∀x∈t.selects,∀a∈x.alts,(-9223372036854775808≤a.entry∧a.entry≤9223372036854775807)∧-9223372036854775808≤a.time∧a.time≤9223372036854775807
theorem f41_l1_eq(t:af)(ha:SzA t)(hp:∀o y,idx t.objs o=some y→1≤y.size∧y.size≤65536)(r:Option Bool)(hl:t.selects.length<9223372036854775808)(n:Nat)(hn:n=9223372036854775808):
  f41_l1 t (λ_=>r) n 0=bif t.selects.all (fJ t) then r else some false:=by
 refine eW t.selects (f41_l1 t λ_=>r) r (fJ t) n hn hl (λm i hi=>?_) (λm=>by rw[f41_l1,dM,cdF])
 rw[f41_l1,eK hi,cdT,am,au hi,bnS,w1 hi hl]
 have hx:=ha.alts _ (List.getElem_mem hi)
 generalize t.selects[i]=x at hx
 have hat:f51 t x.else_=at1 t x.else_:=rfl
 rw[f104_eq t x.obj 0 1 oM,nS (hp x.obj),hat]
 unfold fJ
 by_cases hc:1≤(x.alts.length:Int)∧(x.alts.length:Int)≤16
 ·rw[dcF (show¬(x.alts.length:Int)<1 by omega),dcF (show¬(x.alts.length:Int)>16 by omega)]
  simp only[Bool.or_self,cdF,bnS,Bool.false_or]
  rw[f41_l2_eq t x _ hx oM _ rfl]
  by_cases h1:0≤x.obj
  ·rw[dcT h1,dcF (show¬x.obj<0 by omega)]
   by_cases h2:x.obj<(t.objs.length:Int)
   ·rw[dcT h2,dcF (show¬x.obj≥(t.objs.length:Int) by omega)]
    cases decide (x.else_= -1)<;>cases at1 t x.else_<;>cases x.alts.all (d3 t x.obj)<;>rfl
   ·rw[dcF h2,dcT (show x.obj≥(t.objs.length:Int) by omega)];rfl
  ·rw[dcF h1,dcT (show x.obj<0 by omega)];rfl
 ·have:(decide ((x.alts.length:Int)<1)||decide ((x.alts.length:Int)>16))=true:=by
   rw[Bool.or_eq_true]
   simp only[decide_eq_true_eq]
   omega
  rw[this];rfl
theorem f41_eq(t:af)(ha:SzA t)(hp:∀o y,idx t.objs o=some y→1≤y.size∧y.size≤65536):f41 t=some (ie t&&fg t):=by
 unfold f41 ie fg
 by_cases h1:(t.selects.length:Int)>1024
 ·rw[dcT h1];rfl
 ·rw[dcF h1,Bool.false_or]
  by_cases h2:(t.lists.length:Int)>4096
  ·rw[dcT h2]
   cases t.selects.all (fJ t)<;>rfl
  ·rw[dcF h2,cdF,am,f41_l1_eq t ha hp _ oM _ rfl,am,f41_l3_eq t _ oM _ rfl]
   cases t.selects.all (fJ t)<;>cases t.lists.all (gL t)<;>rfl
def qR(t:af)(P:List az)(x:az):Bool:= !(dO t x)&&P.all λg=> !((!(decide (g.from_≥x.from_)&&decide (g.to≤x.to)))&&(!(decide (g.to≤x.from_)||decide (x.to≤g.from_))))
theorem nc{x g:az}(hx:x.from_<x.to)(hg:g.from_<g.to):ff x g= !((!(decide (g.from_≥x.from_)&&decide (g.to≤x.to)))&&(!(decide (g.to≤x.from_)||decide (x.to≤g.from_)))):=by
 have e:decide ((if x.from_>g.from_ then x.from_ else g.from_)<(if x.to<g.to then x.to else g.to))=(!(decide (g.to≤x.from_)||decide (x.to≤g.from_))):=by
  by_cases h1:g.to≤x.from_
  ·rw[dcT h1]
   refine dcF ?_
   split<;>split<;>omega
  ·by_cases h2:x.to≤g.from_
   ·rw[dcT h2,Bool.or_true]
    refine dcF ?_
    split<;>split<;>omega
   ·rw[dcF h1,dcF h2]
    refine dcT ?_
    split<;>split<;>omega
 unfold ff
 rw[e]
theorem n5{t:af}{x:az}(h:dO t x=false):x.from_<x.to:=by
 unfold dO at h
 simp only[Bool.or_eq_false_iff,decide_eq_false_iff_not] at h
 omega
theorem ng(t:af):∀(r P:List az),(∀g∈P,g.from_<g.to)→fd (qR t) P r=dN t P r
 |[],P,_=>rfl
 |x::r,P,hP=>by
  rw[fd,dN,qR]
  cases hb:dO t x
  ·have hx:=n5 hb
   rw[ng t r (P++ [x]) (λg hg=>by
    rcases List.mem_append.1 hg with h|h
    ·exact hP g h
    ·rw[List.mem_singleton] at h;subst h;exact hx)]
   have e:(P.all λg=> !((!(decide (g.from_≥x.from_)&&decide (g.to≤x.to)))&&(!(decide (g.to≤x.from_)||decide (x.to≤g.from_)))))=P.all (ff x):=by
    rw[Bool.eq_iff_iff,List.all_eq_true,List.all_eq_true]
    constructor
    ·intro h g hg
     rw[nc hx (hP g hg)];exact h g hg
    ·intro h g hg
     rw[←nc hx (hP g hg)];exact h g hg
   rw[e]
  ·rfl
theorem f42_eq(t:af):f42 t=some (iu t):=by
 unfold f42 iu
 cases h1:decide ((t.handlers.length:Int)>4096)
 ·have hl:(t.handlers.length:Int)≤4096:=by
   simp only[decide_eq_false_iff_not] at h1
   omega
  rw[cdF,am,mZ t.handlers (f42_l1 t λ_=>some true) (some true) (qR t) _ rfl oM (λn i hi=>by
   rw[f42_l1,eK hi,cdT,am,au hi,bnS,w1 hi oM]
   generalize t.handlers[i]=x
   unfold qR
   have hat:f51 t x.at_=at1 t x.at_:=rfl
   have hb:(((((decide (x.from_<0))||(decide (x.from_≥x.to)))||(decide (x.to>(List.length t.insns:Int))))||(!(f51 t x.at_)))||((decide (x.at_≥x.from_))&&(decide (x.at_<x.to))))=dO t x:=by
    rw[hat];rfl
   rw[hb]
   cases dO t x
   ·rw[cdF,l8 t.handlers i oM (f42_l2 t (i:Int) (λ_ _ _ _=>f42_l1 t (λ_=>some true) n ((i+1:Nat):Int)) x) (f42_l1 t (λ_=>some true) n ((i+1:Nat):Int)) (λg=> !((!(decide (g.from_≥x.from_)&&decide (g.to≤x.to)))&&(!(decide (g.to≤x.from_)||decide (x.to≤g.from_))))) _ rfl oM (λm j hj hji=>by
     rw[f42_l2,dcT (by omega:(j:Int)<(i:Int)),cdT,au hj,bnS,w1 hj oM]
     generalize t.handlers[j]=g
     cases ((!(decide (g.from_≥x.from_)&&decide (g.to≤x.to)))&&(!(decide (g.to≤x.from_)||decide (x.to≤g.from_))))<;>rfl) (λm=>by rw[f42_l2,dM,cdF])]
    rfl
   ·rfl) (λn=>by rw[f42_l1,dM,cdF]),ng t _ _ λg hg=>by cases hg]
  cases dN t [] t.handlers<;>rfl
 ·rfl
def lpQ(t:af)(P:List Loop)(x:Loop):Bool:=o6 t x&&P.all λy=> !(decide (y.back=x.back))
theorem qO(P:List Loop)(m:List (Int×Bool))(x:Loop):inM (P.foldl (λm x=>ba m x.back true) m) x.back=(inM m x.back|| !(P.all λy=> !(decide (y.back=x.back)))):=by
 induction P generalizing m with
 |nil=>simp
 |cons y P ih=>
  rw[List.foldl_cons,ih,jX,List.all_cons]
  cases decide (y.back=x.back)<;>cases inM m x.back<;>simp
theorem o5(t:af):∀(r P:List Loop),fd (lpQ t) P r=fR t (P.foldl (λm x=>ba m x.back true) []) r
 |[],P=>rfl
 |x::r,P=>by
  rw[fd,fR,o5 t r (P++ [x]),List.foldl_append,qO]
  have e:inM ([]:List (Int×Bool)) x.back=false:=rfl
  rw[e,Bool.false_or,lpQ]
  simp only[List.foldl_cons,List.foldl_nil]
  cases o6 t x<;>cases (P.all λy=> !(decide (y.back=x.back)))<;>rfl
theorem qM(t:af)(x:Loop):(((((!(f51 t x.head))||(!(f51 t x.back)))||(decide (x.head>x.back)))||(decide (x.bound<0)))||(decide (x.bound>2147483647)))=(((decide (x.head<0)||decide (x.head>x.back))||(!(at1 t x.back)))||(decide (x.bound<0)||decide (x.bound>2147483647))):=by
 have h1:f51 t x.head=(decide (x.head≥0)&&decide (x.head<(t.insns.length:Int))):=rfl
 have h2:f51 t x.back=(decide (x.back≥0)&&decide (x.back<(t.insns.length:Int))):=rfl
 unfold at1
 rw[h1,h2,Bool.eq_iff_iff]
 simp only[Bool.or_eq_true,Bool.not_eq_true',Bool.and_eq_false_iff,decide_eq_true_eq,decide_eq_false_iff_not]
 omega
theorem f43_eq(t:af):f43 t=some (mm t):=by
 unfold f43 mm
 cases h1:decide ((t.loops.length:Int)>4096)
 ·have hl:(t.loops.length:Int)≤4096:=by
   simp only[decide_eq_false_iff_not] at h1
   omega
  rw[cdF,am,mZ t.loops (f43_l1 t λ_=>some true) (some true) (lpQ t) _ rfl oM (λn i hi=>by
   rw[f43_l1,eK hi,cdT,am,au hi,bnS,w1 hi oM]
   generalize t.loops[i]=x
   rw[qM]
   unfold lpQ o6
   cases hc:(decide (x.head<0)||decide (x.head>x.back))||(!(at1 t x.back))
   ·have h2:at1 t x.back=true:=by
     cases h:at1 t x.back
     ·rw[h] at hc;simp at hc
     ·rfl
    obtain⟨y,hy,_⟩:=aL (eI.1 h2)
    rw[hy,bnS]
    cases hd:(decide (x.bound<0)||decide (x.bound>2147483647))
    ·rw[Bool.or_self,cdF]
     have e:((((!decide (y.op=29))&&(!decide (y.op=30)))&&(!decide (y.op=31)))||(!decide (y.to=x.head)))= !(f97 y x.head):=by
      unfold f97
      cases decide (y.op=29)<;>cases decide (y.op=30)<;>cases decide (y.op=31)<;>cases decide (y.to=x.head)<;>rfl
     rw[e,l8 t.loops i oM (f43_l2 t (i:Int) n (λ_ _ _ _ _ _ _ _ _ _=>f43_l1 t (λ_=>some true) n ((i+1:Nat):Int)) x y) (f43_l1 t (λ_=>some true) n ((i+1:Nat):Int)) (λg=> !(decide (g.back=x.back))) _ rfl oM (λm j hj hji=>by
      rw[f43_l2,dcT (by omega:(j:Int)<(i:Int)),cdT,au hj,bnS,w1 hj oM]
      generalize t.loops[j]=g
      cases decide (g.back=x.back)<;>rfl) (λm=>by rw[f43_l2,dM,cdF])]
     dsimp only
     cases f97 y x.head<;>rfl
    ·rw[Bool.or_true,Bool.not_true,Bool.and_false,Bool.false_and];rfl
   ·rfl) (λn=>by rw[f43_l1,dM,cdF]),show fd (lpQ t) [] t.loops=fR t [] t.loops from o5 t _ []]
  cases fR t [] t.loops<;>rfl
 ·rfl
def iX(z:Bool×Int):Int:=bif z.1 then z.2 else -1
theorem pC(g:Int→aq→Bool×Int)(hg:∀l e,0≤l→l≤256→(g l e).1=true→0≤(g l e).2∧(g l e).2≤256):∀(L:List aq)(l:Int),0≤l→l≤256→(exL g L l).1=true→0≤(exL g L l).2∧(exL g L l).2≤256
 |[],l,h0,h1,_=>⟨h0,h1⟩
 |e::r,l,h0,h1,h=>by
  rw[exL] at h⊢
  cases hb:(g l e).1
  ·rw[hb] at h;cases h
  ·rw[hb,cdT] at h
   rw[cdT]
   have:=hg l e h0 h1 hb
   exact pC g hg r _ this.1 this.2 h
theorem mr(os:List Obj)(ent:Int):∀(n:Nat)(deep left:Int)(e:aq),0≤left→left≤256→(exF os ent n deep left e).1=true→0≤(exF os ent n deep left e).2∧(exF os ent n deep left e).2≤256
 |0,deep,left,e,_,_,h=>by cases h
 |n+1,deep,left,e,h0,h1,h=>by
  rw[exF] at h⊢
  cases hb:((decide (IntKind.i64.wrap (left - 1)<0)||decide (deep>64))||ck os ent e)
  ·rw[hb,cdF] at h
   rw[cdF]
   rw[w64 oM oM] at hb h⊢
   have:¬left - 1<0:=by
    intro hh
    rw[dcT hh] at hb;simp at hb
   exact pC _ (λl e a b c=>mr os ent n (deep+1) l e a b c) _ _ oM oM h
  ·rw[hb] at h;cases h
theorem f106_loop(rec:af→Int→aq→Int→Int→Option Int)(t:af)(ent:Int)(e:aq)(deep:Int)(g:Int→aq→Bool×Int)
  (hr:∀l x,0≤l→l≤256→rec t ent x (IntKind.i64.wrap (deep+1)) l=some (iX (g l x)))(hg:∀l e,0≤l→l≤256→(g l e).1=true→0≤(g l e).2∧(g l e).2≤256)(hl:e.l.length<9223372036854775808):
  ∀(n i:Nat)(z left:Int),z=(i:Int)→i≤e.l.length→e.l.length<n+i→0≤left→left≤256→f106s_l1 rec t ent e deep (λn=>some n) n left z=some (iX (exL g (e.l.drop i) left))
 |0,i,z,left,_,_,h,_,_=>oM
 |n+1,i,z,left,hz,hi,h,h0,h1=>by
  subst hz
  rw[f106s_l1,dcT (show left≥0 from h0),Bool.and_true]
  by_cases hh:i<e.l.length
  ·rw[ay hh,eK hh,cdT,au hh,bnS,hr _ _ h0 h1,bnS,w1 hh hl,exL]
   cases hb:(g left e.l[i]).1
   ·rw[iX,hb,cdF,cdF]
    cases n with
    |zero=>omega
    |succ n=>
     rw[f106s_l1,dcF (show¬(-1:Int)≥0 by omega),Bool.and_false];rfl
   ·have:=hg _ _ h0 h1 hb
    rw[iX,hb,cdT,cdT,f106_loop rec t ent e deep g hr hg hl n (i+1) _ _ rfl oM oM this.1 this.2]
  ·have ei:i=e.l.length:=oM
   subst ei
   rw[dM,cdF,List.drop_eq_nil_of_le (Nat.le_refl _)];rfl
theorem mb(f p a b c d l lo hi:Bool):((!f)||(!((((((a&&b)&&c)&&d)&&l)&&lo)&&hi))||(!p))=(((((((((!f)||(!p))||(!a))||(!b))||(!c))||(!d))||(!l))||(!lo))||(!hi)):=by
 cases f<;>cases p<;>cases a<;>cases b<;>cases c<;>cases d<;>cases l<;>cases lo<;>cases hi<;>rfl
def di(z:Bool×Int×Int×Int×Int×Int)(e:aq):Bool:=
 ((((((((!z.1)||(!decide ((List.length e.l:Int)=z.2.1)))||(!decide (e.op=z.2.2.1)))||(!decide (e.n=z.2.2.2.1)))||(!decide (e.o=z.2.2.2.2.1)))||(!decide (e.off=z.2.2.2.2.2)))||(!decide (e.len=0)))||(!decide (e.lo=0)))||(!decide (e.hi=0))
theorem kO(os:List Obj)(ent:Int)(e:aq):ck os ent e=di (be os ent e) e:=rfl
def kj(rec136:af→Int→aq→Int→Int→Option (Int))(t0:af)(entries1:Int)(e2:aq)(deep3:Int)(n4:Int)(parts174:Int)(fine175:Bool)(c01176:Int)(c02177:Int)(c03178:Int)(c04179:Int):Option Int:=
 (bif (((!fine175)||(!(((((((decide (e2.op=c01176))&&(decide (e2.n=c02177)))&&(decide (e2.o=c03178)))&&(decide (e2.off=c04179)))&&(decide (e2.len=0)))&&(decide (e2.lo=0)))&&(decide (e2.hi=0)))))||(!decide ((List.length e2.l:Int)=parts174))) then some (-1) else ap (λ(n186:Int)=>
 some n186) λk187=>
 (f106s_l1 rec136 t0 entries1 e2 deep3 k187 9223372036854775808 (IntKind.i64.wrap (n4 - 1)) 0))
theorem f106s_W(rec136:af→Int→aq→Int→Int→Option (Int))(t:af)(ent:Int)(e:aq)(deep left:Int):f106s rec136 t ent e deep left=
  (bif ((decide (left=0))||(decide (deep>64))) then some (-1) else
  bif (decide (e.kind=1)) then kj rec136 t ent e deep left 0 true 0 e.n 0 0 else
  bif (decide (e.kind=2)) then(Option.bind (f104 t e.o e.off 1) λr181=>Option.bind (bif r181 then(Option.bind (idx t.objs e.o) λx183=>some (!x183.ptr)) else some false) λb182=>kj rec136 t ent e deep left 0 b182 0 0 e.o e.off) else
  bif (decide (e.kind=14)) then kj rec136 t ent e deep left 0 ((decide (e.n≥0))&&(decide (e.n<ent))) 0 e.n 0 0 else
  bif (decide (e.kind=4)) then kj rec136 t ent e deep left 1 true 18 0 0 0 else
  bif (decide (e.kind=5)) then kj rec136 t ent e deep left 2 ((decide (e.op≥7))&&(decide (e.op≤15))) e.op 0 0 0 else
  bif (decide (e.kind=6)) then(bif decide (e.kind=6) then kj rec136 t ent e deep left 2 true 0 0 0 0 else some (-1)) else(bif decide (e.kind=7) then kj rec136 t ent e deep left 2 true 0 0 0 0 else some (-1))):=rfl
theorem rn(rec:af→Int→aq→Int→Int→Option Int)(t:af)(ent:Int)(e:aq)(deep left:Int)(g:Int→aq→Bool×Int)
  (hr:∀l x,0≤l→l≤256→rec t ent x (IntKind.i64.wrap (deep+1)) l=some (iX (g l x)))(hg:∀l e,0≤l→l≤256→(g l e).1=true→0≤(g l e).2∧(g l e).2≤256)(h0:1≤left)(h1:left≤256)
  (parts:Int)(fine:Bool)(a b c d:Int)(hp:parts≤2):kj rec t ent e deep left parts fine a b c d=some (iX (bif di (fine,parts,a,b,c,d) e then(false,IntKind.i64.wrap (left - 1)) else exL g e.l (IntKind.i64.wrap (left - 1)))):=by
 unfold kj
 rw[mb]
 show(bif di (fine,parts,a,b,c,d) e then _ else _)=_
 cases hs:di (fine,parts,a,b,c,d) e
 ·have hl:(e.l.length:Int)=parts:=by
   unfold di at hs
   simp only[Bool.or_eq_false_iff,Bool.not_eq_false',decide_eq_true_eq] at hs
   exact hs.1.1.1.1.1.1.1.2
  rw[cdF,cdF,am,w64 oM oM,f106_loop rec t ent e deep g hr hg oM _ 0 0 _ rfl (Nat.zero_le _) oM oM oM,List.drop_zero]
 ·rfl
theorem f106s_eq(rec:af→Int→aq→Int→Int→Option Int)(t:af)(ent:Int)(e:aq)(deep left:Int)(g:Int→aq→Bool×Int)
  (hr:∀l x,deep≤64→0≤l→l≤256→rec t ent x (IntKind.i64.wrap (deep+1)) l=some (iX (g l x)))(hg:∀l e,0≤l→l≤256→(g l e).1=true→0≤(g l e).2∧(g l e).2≤256)(h0:0≤left)(h1:left≤256):
  f106s rec t ent e deep left=some (iX (bif (decide (IntKind.i64.wrap (left - 1)<0)||decide (deep>64))||ck t.objs ent e then(false,IntKind.i64.wrap (left - 1)) else exL g e.l (IntKind.i64.wrap (left - 1)))):=by
 rw[f106s_W]
 have e0:decide (IntKind.i64.wrap (left - 1)<0)=decide (left=0):=by
  rw[w64 oM oM]
  exact decide_eq_decide.2 oM
 rw[e0]
 cases hc:(decide (left=0)||decide (deep>64))
 ·simp only[Bool.or_eq_false_iff,decide_eq_false_iff_not] at hc
  have W:=rn rec t ent e deep left g (λl x=>hr l x oM) hg oM h1
  rw[cdF,Bool.false_or,kO]
  unfold be
  cases k1:decide (e.kind=1)
  ·cases k2:decide (e.kind=2)
   ·cases k3:decide (e.kind=14)
    ·cases k4:decide (e.kind=4)
     ·cases k5:decide (e.kind=5)
      ·cases k6:decide (e.kind=6)
       ·cases k7:decide (e.kind=7)
        ·rfl
        ·exact W 2 true 0 0 0 0 oM
       ·exact W 2 true 0 0 0 0 oM
      ·refine(W 2 _ e.op 0 0 0 oM).trans ?_
       have es:di ((decide (e.op≥7)&&decide (e.op≤15)),2,e.op,0,0,0) e=di (true,2,(if(if 15<e.op then 15 else e.op)>7 then(if 15<e.op then 15 else e.op) else 7),0,0,0) e:=by
        by_cases hh:7≤e.op∧e.op≤15
        ·have:(if(if 15<e.op then 15 else e.op)>7 then(if 15<e.op then 15 else e.op) else 7)=e.op:=by
          split<;>split at* <;>omega
         rw[this,dcT (show e.op≥7 from hh.1),dcT hh.2];rfl
        ·have:e.op≠(if(if 15<e.op then 15 else e.op)>7 then(if 15<e.op then 15 else e.op) else 7):=by
          split<;>split at* <;>omega
         have h2:(decide (e.op≥7)&&decide (e.op≤15))=false:=by
          rw[Bool.and_eq_false_iff]
          simp only[decide_eq_false_iff_not]
          omega
         unfold di
         dsimp only
         rw[h2,dcF this]
         simp
       rw[es];rfl
     ·exact W 1 true 18 0 0 0 oM
    ·exact W 0 _ 0 e.n 0 0 oM
   ·rw[cdF,cdF,cdT,cdT,f104_eq t e.o e.off 1 oM,bnS]
    cases hs:spot t.objs e.o e.off 1
    ·exact W 0 false 0 0 e.o e.off oM
    ·obtain⟨y,hy,_⟩:=fH hs
     rw[cdT,hy,bnS,bnS]
     refine(W 0 _ 0 0 e.o e.off oM).trans ?_
     dsimp only
     cases y.ptr<;>rfl
  ·exact W 0 true 0 e.n 0 0 oM
 ·rfl
theorem f106_eq(t:af)(ent:Int):∀(n:Nat)(deep left:Int)(e:aq),1≤deep→deep≤65→66<n+deep→0≤left→left≤256→f106 (n+1) t ent e deep left=some (iX (exF t.objs ent n deep left e))
 |0,deep,left,e,h0,h1,h2,_,_=>oM
 |n+1,deep,left,e,h0,h1,h2,h3,h4=>by
  rw[f106,exF]
  refine f106s_eq (f106 (n+1)) t ent e deep left (exF t.objs ent n (deep+1)) (λl x hd a b=>?_) (λl x a b c=>mr t.objs ent n (deep+1) l x a b c) h3 h4
  rw[w64 oM oM]
  exact f106_eq t ent n (deep+1) l x oM oM oM a b
theorem f21_eq(t:af)(a:Int):f21 t a=some (chk t a):=by
 unfold f21 chk
 have hat:f51 t a=at1 t a:=rfl
 rw[hat]
 cases h:at1 t a
 ·rw[bt (λhh=>by rw[eI.2 hh] at h;cases h)];rfl
 ·obtain⟨y,hy,_⟩:=aL (eI.1 h)
  rw[hy]
  dsimp only[bnS,cdT]
  cases decide (y.op=27)<;>rfl
def ckQ(t:af)(P:List cP)(x:cP):Bool:=(chk t x.at_&&(match P.getLast? with|none=>true|some y=>decide (y.at_<x.at_)))&& !(decide (x.kind<1)||decide (x.kind>5))
theorem sR{t:af}{a:Int}(h:chk t a=true):0≤a:=by
 unfold chk at h
 cases hx:idx t.insns a with
 |none=>rw[hx] at h;cases h
 |some y=>exact(it hx).1
theorem pL(t:af):∀(r P:List cP),fd (ckQ t) P r=fW t (match P.getLast? with|none=> -1|some y=>y.at_) r
 |[],P=>rfl
 |x::r,P=>by
  rw[fd,fW,pL t r (P++ [x]),List.getLast?_append,ckQ]
  simp only[List.getLast?_singleton,Option.or_some,Option.getD_some]
  cases hc:chk t x.at_
  ·simp
  ·have:=sR hc
   cases P.getLast? with
   |none=>
    dsimp only
    rw[dcT (show(-1:Int)<x.at_ by omega)];simp
   |some y=>
    dsimp only
    cases decide (y.at_<x.at_)<;>simp
theorem f40_l3_eq(t:af)(r:Option Bool)(hl:t.checks.length<9223372036854775808)(n:Nat)(hn:n=9223372036854775808):f40_l3 t (λ_=>r) n 0=bif fW t (-1) t.checks then r else some false:=by
 rw[show fW t (-1) t.checks=fd (ckQ t) [] t.checks from(pL t _ []).symm]
 refine mZ t.checks (f40_l3 t λ_=>r) r (ckQ t) n hn hl (λm i hi=>?_) (λm=>by rw[f40_l3,dM,cdF])
 rw[f40_l3,eK hi,cdT,au hi,bnS,w1 hi hl,f21_eq,bnS]
 have hprev:i≠0→idx t.checks (IntKind.i64.wrap ((i:Int) - 1))=(t.checks.take i).getLast? :=λh0=>by
  rw[w64 oM oM,show(i:Int) - 1=((i - 1:Nat):Int) by omega,au oM,List.getLast?_eq_getElem?,List.length_take,List.getElem?_take_of_lt oM,show min i t.checks.length - 1=i - 1 by omega,geG]
 generalize hx:t.checks[i]=x
 unfold ckQ
 by_cases h0:i=0
 ·subst h0
  rw[dcF (show¬((0:Nat):Int)>0 by omega)]
  cases chk t x.at_<;>cases decide (x.kind<1)<;>cases decide (x.kind>5)<;>rfl
 ·rw[dcT (show((i:Nat):Int)>0 by omega),hprev h0]
  have hs:∃y,(t.checks.take i).getLast? =some y:=by
   rw[←hprev h0,w64 oM oM,show(i:Int) - 1=((i - 1:Nat):Int) by omega,au oM]
   exact⟨_,rfl⟩
  obtain⟨y,hy⟩:=hs
  rw[hy]
  dsimp only[cdT,bnS]
  have e:decide (y.at_≥x.at_)= !(decide (y.at_<x.at_)):=by
   by_cases h:y.at_<x.at_
   ·rw[dcT h,dcF oM];rfl
   ·rw[dcF h,dcT oM];rfl
  rw[e]
  cases chk t x.at_<;>cases decide (y.at_<x.at_)<;>cases decide (x.kind<1)<;>cases decide (x.kind>5)<;>rfl
theorem f40_l1_eq(t:af)(r:Option Bool)(hl:t.prots.length<9223372036854775808)(n:Nat)(hn:n=9223372036854775808):f40_l1 t (λ_=>r) n 0=bif t.prots.all (eb t) then r else some false:=by
 refine eW t.prots (f40_l1 t λ_=>r) r (eb t) n hn hl (λm i hi=>?_) (λm=>by rw[f40_l1,dM,cdF])
 rw[f40_l1,eK hi,cdT,am,au hi,bnS,w1 hi hl]
 generalize t.prots[i]=x
 unfold eb
 cases hc:(decide (x.ceiling<0)||decide (x.ceiling>31))||decide ((x.barriers.length:Int)>8)
 ·have he:(x.barriers.length:Int)≤8:=by
   simp only[Bool.or_eq_false_iff,decide_eq_false_iff_not] at hc
   omega
  rw[cdF,eW x.barriers (f40_l2 t (λ_ _=>f40_l1 t (λ_=>r) m ((i+1:Nat):Int)) x) (f40_l1 t (λ_=>r) m ((i+1:Nat):Int)) (iI t x.barriers.length) _ rfl oM (λk j hj=>by
   rw[f40_l2,eK hj,cdT,au hj,bnS,w1 hj oM,f106_eq t _ 66 1 256 _ oM oM oM oM oM,bnS]
   unfold iI iX
   have hle:=mr t.objs x.barriers.length 66 1 256 x.barriers[j] oM oM
   cases hb:(exF t.objs x.barriers.length 66 1 256 x.barriers[j]).1
   ·rfl
   ·have:=hle hb
    rw[cdT,dcF oM];rfl) (λk=>by rw[f40_l2,dM,cdF])]
  cases x.barriers.all (iI t x.barriers.length)<;>rfl
 ·rfl
theorem f40_eq(t:af)(hl:t.checks.length<9223372036854775808):f40 t=some (fc t&&fW t (-1) t.checks):=by
 unfold f40 fc
 by_cases h:(t.prots.length:Int)≤32
 ·rw[dcT h,dcF (show¬(t.prots.length:Int)>32 by omega),cdF,am,am,f40_l1_eq t _ oM _ rfl,f40_l3_eq t _ hl _ rfl]
  cases t.prots.all (eb t)<;>cases fW t (-1) t.checks<;>rfl
 ·rw[dcF h,dcT (show(t.prots.length:Int)>32 by omega),Bool.and_false];rfl
def n8(c:Int):Bool:=decide (c=68)||(decide (c=65)||(decide (c=66)||(decide (c=78)||(decide (c=77)||decide (c=84)))))
def mt:List Field→List (Int×Int)→Bool
 |[],[]=>true
 |f::F,(c,w)::L=>decide (f.name=c)&&(decide (f.lo=(f189 w).1)&&(decide (f.hi=(f189 w).2)&&(n8 c&&(F.all (λg=> !(decide (g.name=c)))&&mt F L))))
 |_,_=>false
def goF(x:aM):List Field→aM→Bool
 |[],c=>(decide (c.op=0))&&((decide (c.d=0))&&((decide (c.a=0))&&((decide (c.b=0))&&((decide (c.n=0))&&((decide (c.m=0))&&((decide (c.to=0))&&true))))))
 |f::F,c=> !((decide ((f161 x f.name)<f.lo))||(decide ((f161 x f.name)>f.hi)))&&goF x F (f162 c f.name 0)
theorem dP{c:Int}(h:n8 c=true):c=68∨c=65∨c=66∨c=78∨c=77∨c=84:=by
 unfold n8 at h
 simpa only[Bool.or_eq_true,decide_eq_true_eq] using h
theorem f161_set{c:aM}{a b:Int}(ha:n8 a=true)(hb:n8 b=true)(h:b≠a):f161 (f162 c a 0) b=f161 c b:=by
 rcases dP ha with rfl|rfl|rfl|rfl|rfl|rfl<;>rcases dP hb with rfl|rfl|rfl|rfl|rfl|rfl<;>first|exact absurd rfl h|rfl
theorem f162_op(c:aM)(a:Int):(f162 c a 0).op=c.op:=by
 unfold f162
 rw[am]
 cases decide (a=68)<;>cases decide (a=65)<;>cases decide (a=66)<;>cases decide (a=78)<;>cases decide (a=77)<;>rfl
theorem mj:∀{F:List Field}{L:List (Int×Int)},mt F L=true→∀f∈F,n8 f.name=true
 |[],_,_,f,hf=>by cases hf
 |g::F,[],h,_,_=>by cases h
 |g::F,(c,w)::L,h,f,hf=>by
  simp only[mt,Bool.and_eq_true,decide_eq_true_eq] at h
  rcases List.mem_cons.1 hf with rfl|hf
  ·rw[h.1];exact h.2.2.2.1
  ·exact mj h.2.2.2.2.2 f hf
theorem pr(x:aM):∀(F:List Field)(L:List (Int×Int))(c:aM),mt F L=true→(∀f∈F,f161 c f.name=f161 x f.name)→c.op=0→goF x F c=fl L c.d c.a c.b c.n c.m c.to
 |[],[],c,_,_,h=>by rw[goF,fl,h];rfl
 |[],_::_,c,h,_,_=>by cases h
 |_::_,[],c,h,_,_=>by cases h
 |f::F,(ch,w)::L,c,h,hc,h0=>by
  have hs:=mj h
  simp only[mt,Bool.and_eq_true,decide_eq_true_eq] at h
  obtain⟨h1,h2,h3,h4,h5,h6⟩:=h
  have hne:∀g∈F,g.name≠ch:=λg hg=>by
   have:=List.all_eq_true.1 h5 g hg
   simpa using this
  have ih:=pr x F L (f162 c f.name 0) h6 (λg hg=>by
   rw[f161_set (hs f List.mem_cons_self) (hs g (List.mem_cons_of_mem _ hg)) (by rw[h1];exact hne g hg)]
   exact hc g (List.mem_cons_of_mem _ hg)) (by rw[f162_op];exact h0)
  rw[goF,ih,←hc f List.mem_cons_self,h2,h3,h1]
  rcases dP h4 with rfl|rfl|rfl|rfl|rfl|rfl<;>rfl
theorem f108_l1_eq(x:aM)(r:Row×Bool)(E:Bool)(hl:r.1.fields.length<9223372036854775808):∀(n i:Nat)(z:Int)(c:aM),z=(i:Int)→i≤r.1.fields.length→r.1.fields.length<n+i→
  f108_l1 x r (λo d a b n m t=>some (((decide (o=0))&&((decide (d=0))&&((decide (a=0))&&((decide (b=0))&&((decide (n=0))&&((decide (m=0))&&((decide (t=0))&&true)))))))&&E)) n z c.op c.d c.a c.b c.n c.m c.to=some (goF x (r.1.fields.drop i) c&&E)
 |0,i,z,c,_,_,h=>oM
 |n+1,i,z,c,hz,hi,h=>by
  subst hz
  rw[f108_l1]
  by_cases hh:i<r.1.fields.length
  ·rw[ay hh,goF,eK hh,cdT,au hh,bnS,w1 hh hl]
   have ih:=f108_l1_eq x r E hl n (i+1) _ (f162 c (r.1.fields[i]).name 0) rfl oM oM
   have ec:aM.mk c.op c.d c.a c.b c.n c.m c.to=c:=rfl
   rw[ec,ih]
   generalize r.1.fields[i]=f
   cases ((decide ((f161 x f.name)<f.lo))||(decide ((f161 x f.name)>f.hi)))<;>rfl
  ·have e:i=r.1.fields.length:=oM
   subst e
   rw[dM,cdF,List.drop_eq_nil_of_le (Nat.le_refl _)];rfl
theorem f160_l1_eq(o:Int)(k:Option (Row×Bool))(hf:∀r∈f190,r.op≠o):∀(n i:Nat)(z:Int),z=(i:Int)→i≤f190.length→f190.length<n+i→f160_l1 o (λ_=>k) n z=k
 |0,i,z,_,_,h=>oM
 |n+1,i,z,hz,hi,h=>by
  subst hz
  have h57:f190.length=57:=rfl
  rw[f160_l1]
  by_cases hh:i<f190.length
  ·rw[eK hh,cdT,au hh,bnS,dcF (hf _ (List.getElem_mem hh)),cdF,w1 hh oM]
   exact f160_l1_eq o k hf n (i+1) _ rfl oM oM
  ·have e:i=f190.length:=oM
   subst e
   rw[dM,cdF]
theorem f190_ops:(f190.all λr=>decide (1≤r.op)&&decide (r.op≤57))=true:=by decide+kernel
theorem f160_ok:∀k,k<57→(match f160 ((k:Nat)+1:Int) with|some r=>r.2&&(Nat.blt r.1.fields.length 100&&mt r.1.fields (iy ((k:Nat)+1:Int)))|none=>false)=true:=by decide+kernel
theorem f160_out{o:Int}(h:¬(1≤o∧o≤57)):f160 o=some ((Row.mk 0 ByteArray.empty []),false):=by
 unfold f160
 rw[am]
 refine f160_l1_eq o _ (λr hr he=>?_) _ 0 0 rfl (Nat.zero_le _) (by have h57:f190.length=57:=rfl;omega)
 have:=List.all_eq_true.1 f190_ops r hr
 simp only[Bool.and_eq_true,decide_eq_true_eq] at this
 omega
theorem qU:iy 37=[(78,107),(77,115)]:=by decide+kernel
theorem f108_eq(x:aM):f108 x=some (fk x):=by
 unfold f108 fk
 by_cases h:1≤x.op∧x.op≤57
 ·obtain⟨k,hk⟩:∃k:Nat,x.op=(k:Int)+1:=⟨(x.op - 1).toNat,oM⟩
  have hf:=f160_ok k oM
  rw[←hk] at hf
  cases hr:f160 x.op with
  |none=>rw[hr] at hf;cases hf
  |some r=>
   rw[hr] at hf
   dsimp only at hf
   simp only[Bool.and_eq_true] at hf
   obtain⟨h2,h3,h4⟩:=hf
   have hlen:r.1.fields.length<100:=by simpa[Nat.blt_eq] using h3
   rw[bnS,h2,Bool.not_true,cdF,am]
   have key:=f108_l1_eq x r (((!decide (x.op=27))||(decide (x.n≤x.m)))&&(((!decide (x.op=37))||(!decide (x.n=6)))||(decide (x.m=0)))) oM 9223372036854775808 0 0 (aM.mk 0 x.d x.a x.b x.n x.m x.to) rfl (Nat.zero_le _) oM
   rw[List.drop_zero,pr x _ _ _ h4 (λf hf=>by
    have:=mj h4 f hf
    rcases dP this with e|e|e|e|e|e<;>rw[e]<;>rfl) rfl] at key
   have e1:decide (1≤x.op)=true:=dcT h.1
   have e2:decide (x.op≤57)=true:=dcT h.2
   have e3:decide (x.n>x.m)= !(decide (x.n≤x.m)):=by
    by_cases hh:x.n≤x.m
    ·rw[dcT hh,dcF oM];rfl
    ·rw[dcF hh,dcT oM];rfl
   rw[e1,e2,e3]
   refine Eq.trans ?_ (key.trans ?_)
   ·simp only[Bool.and_assoc]
   ·dsimp only
    congr 1
    cases hfl:fl (iy x.op) x.d x.a x.b x.n x.m x.to
    ·simp
    ·by_cases h37:x.op=37
     ·have hn:6≤x.n∧x.n≤7:=by
       rw[h37,qU] at hfl
       simp only[fl,rng,f189] at hfl
       simp at hfl
       omega
      have:IntKind.u8.wrap x.n=x.n:=by
       rcases(show x.n=6∨x.n=7 by omega) with e|e<;>rw[e]<;>rfl
      rw[this]
      cases decide (x.op=27)<;>cases decide (x.n≤x.m)<;>cases decide (x.op=37)<;>cases decide (x.n=6)<;>cases decide (x.m=0)<;>rfl
     ·rw[dcF h37]
      cases decide (x.op=27)<;>cases decide (x.n≤x.m)<;>cases decide (x.n=6)<;>cases decide (x.m=0)<;>simp
 ·rw[f160_out h]
  have e2:(decide (1≤x.op)&&decide (x.op≤57))=false:=by
   rw[Bool.and_eq_false_iff]
   simp only[decide_eq_false_iff_not]
   omega
  rw[e2];rfl
theorem f109_eq(t:af)(a m:Int)(h0:0≤a)(h1:0≤m)(h2:a≤65536)(h3:m≤65536)(hl:t.insns.length≤65536):f109 t a m=some (decide ((IntKind.i64.wrap (a+m))≤(t.insns.length:Int))&&(bC t.insns a (IntKind.i64.wrap (a+m))).all (λy=>decide (y.op=29))):=by
 unfold f109
 rw[w64 oM oM]
 by_cases h:a+m≤(t.insns.length:Int)
 ·rw[dcT h,dcF (show¬a+m>(t.insns.length:Int) by omega),cdF,am]
  have hL:(t.insns.take (a+m).toNat).length=(a+m).toNat:=by rw[List.length_take];omega
  have:=sW (t.insns.take (a+m).toNat) (f109_l1 t a m λ_=>some true) (some true) (λy=>decide (y.op=29)) oM (λn i hi=>by
   rw[f109_l1,w64 (x:=a+m) oM oM,dcT (show(i:Int)<a+m by omega),cdT,au oM,bnS,w1 (n:=t.insns.length) oM oM,List.getElem_take]
   generalize t.insns[i]=y
   cases decide (y.op=29)<;>rfl) (λn=>by
   rw[f109_l1,w64 (x:=a+m) oM oM,dcF (show¬(((t.insns.take (a+m).toNat).length:Nat):Int)<a+m by omega),cdF]) 9223372036854775808 a.toNat a oM oM oM
  rw[this]
  have e:bC t.insns a (a+m)=(t.insns.take (a+m).toNat).drop a.toNat:=by
   rw[bC,List.drop_take]
  rw[e]
  cases ((t.insns.take (a+m).toNat).drop a.toNat).all (λy=>decide (y.op=29))<;>rfl
 ·rw[dcF h,dcT (show a+m>(t.insns.length:Int) by omega)];rfl
theorem f110_eq(t:af)(a n:Int)(hl:∀x∈t.tasks,x.entries.length<9223372036854775808):∃e,f110 t a n=some (e,(iG t a n).2)∧((iG t a n).2=true→(∃x∈t.tasks,e∈x.entries)∧IntKind.i64.wrap (IntKind.i64.wrap ((List.length e.ins:Int)+(List.length e.outs:Int))+1)=(iG t a n).1):=by
 unfold f110 iG
 by_cases h:0≤a∧a<t.tasks.length
 ·obtain⟨y,hy,hym⟩:=aL h
  rw[hy,dcF (show¬a<0 by omega),dcF (show¬a≥(t.tasks.length:Int) by omega)]
  dsimp only[bnS]
  by_cases h2:0≤n∧n<y.entries.length
  ·obtain⟨e,he,hem⟩:=aL h2
   rw[he,dcF (show¬n<0 by omega)]
   simp only[Bool.or_self,cdF,bnS]
   rw[dcF (show¬n≥(y.entries.length:Int) by omega)]
   exact⟨e,rfl,λ_=>⟨⟨y,hym,hem⟩,rfl⟩⟩
  ·rw[bt h2]
   by_cases h3:n<0
   ·rw[dcT h3];exact⟨_,rfl,λh=>by cases h⟩
   ·rw[dcF h3]
    simp only[Bool.or_self,cdF,bnS]
    rw[dcT (show n≥(y.entries.length:Int) by omega)];exact⟨_,rfl,λh=>by cases h⟩
 ·rw[bt h]
  have:(decide (a<0)||decide (a≥(t.tasks.length:Int)))=true:=by
   rw[Bool.or_eq_true]
   simp only[decide_eq_true_eq]
   omega
  rw[this];exact⟨_,rfl,λh=>by cases h⟩
theorem f111_eq(t:af)(p n:Int):f111 t p n=some (n7 t p n):=by
 unfold f111 n7
 by_cases h:0≤p∧p<t.prots.length
 ·obtain⟨y,hy,_⟩:=aL h
  rw[hy,dcT (show p≥0 by omega),dcT h.2]
  by_cases h3:0≤n
  ·rw[dcT (show n≥0 from h3)];rfl
  ·rw[dcF (show¬n≥0 from h3)];rfl
 ·rw[bt h]
  have:(decide (p≥0)&&decide (p<(t.prots.length:Int)))=false:=by
   rw[Bool.and_eq_false_iff]
   simp only[decide_eq_false_iff_not]
   omega
  rw[this];rfl
theorem flds5:iy 5=[(68,114),(65,114),(66,108),(78,111),(77,115)]:=by decide+kernel
theorem flds6:iy 6=[(68,114),(65,114),(66,108),(78,111),(77,115)]:=by decide+kernel
theorem sE:iy 43=[(68,114),(78,101),(77,113)]:=by decide+kernel
theorem sD:iy 52=[(65,112),(66,101),(78,98),(84,115)]:=by decide+kernel
theorem po{x:aM}(h:fk x=true)(ho:x.op=5∨x.op=6):0≤x.b:=by
 unfold fk at h
 have e:iy x.op=[(68,114),(65,114),(66,108),(78,111),(77,115)]:=by
  rcases ho with e|e<;>rw[e]
  ·exact flds5
  ·exact flds6
 rw[e] at h
 simp only[Bool.and_eq_true] at h
 have:=h.2.2
 simp only[fl,rng,f189] at this
 simp at this
 omega
theorem sw{x:aM}(h:fk x=true)(ho:x.op=43): -1≤x.m:=by
 unfold fk at h
 rw[ho,sE] at h
 simp only[Bool.and_eq_true] at h
 have:=h.2.2
 simp only[fl,rng,f189] at this
 simp at this
 omega
theorem sv{x:aM}(h:fk x=true)(ho:x.op=52):0≤x.to:=by
 unfold fk at h
 rw[ho,sD] at h
 simp only[Bool.and_eq_true] at h
 have:=h.2.2
 simp only[fl,rng,f189] at this
 simp at this
 omega
theorem oa{t:af}(hT:cA t=true){x:dc}(hx:x∈t.tasks){e:bd}(he:e∈x.entries):(e.ins.length:Int)≤8∧(e.outs.length:Int)≤8:=by
 unfold cA at hT
 rw[Bool.and_eq_true] at hT
 have:=List.all_eq_true.1 hT.2 x hx
 unfold dK at this
 rw[Bool.and_eq_true] at this
 have:=List.all_eq_true.1 this.2 e he
 unfold cD cr at this
 simp only[Bool.and_eq_true,decide_eq_true_eq] at this
 exact⟨this.1.1,this.2.1⟩
theorem mu{t:af}(hT:cA t=true):∀x∈t.tasks,x.entries.length<9223372036854775808:=λx hx=>by
 unfold cA at hT
 rw[Bool.and_eq_true] at hT
 have:=List.all_eq_true.1 hT.2 x hx
 unfold dK at this
 simp only[Bool.and_eq_true,Bool.not_eq_true',Bool.or_eq_false_iff,decide_eq_false_iff_not] at this
 omega
theorem f44_eq(t:af)(x:aM)(hT:cA t=true)(hl:t.insns.length≤65536):f44 t x=some (gt t x):=by
 unfold f44 gt
 rw[f108_eq,bnS]
 cases hm:fk x
 ·rfl
 ·rw[Bool.not_true,cdF,Bool.true_and]
  simp only[am,f111_eq]
  have hat:f51 t x.to=at1 t x.to:=rfl
  rw[hat,f104_eq t x.n x.m 1 oM]
  cases decide (x.op=3)
  ·cases decide (x.op=4)
   ·cases h5:decide (x.op=5)
    ·cases h6:decide (x.op=6)
     ·cases decide (x.op=29)
      ·cases decide (x.op=30)
       ·cases decide (x.op=31)
        ·cases h32:decide (x.op=32)
         ·cases decide (x.op=33)
          ·cases decide (x.op=44)
           ·cases decide (x.op=45)
            ·cases decide (x.op=46)
             ·cases decide (x.op=56)
              ·cases decide (x.op=50)
               ·obtain⟨e,he,hn⟩:=f110_eq t x.a x.b (mu hT)
                rw[he]
                cases decide (x.op=49)
                ·cases h52:decide (x.op=52)
                 ·cases decide (x.op=53)
                  ·cases decide (x.op=55)
                   ·cases decide (x.op=54)
                    ·cases h43:decide (x.op=43)
                     ·rfl
                     ·have:=sw hm (of_decide_eq_true h43)
                      have e:decide (x.m= -1)=decide (x.m<0):=decide_eq_decide.2 oM
                      rw[e]
                      cases decide (x.m<0)<;>rfl
                    ·rfl
                   ·rfl
                  ·rfl
                 ·have:=sv hm (of_decide_eq_true h52)
                  have e:at1 t x.to=decide (x.to<(t.insns.length:Int)):=by
                   unfold at1
                   rw[dcT (show x.to≥0 from this),Bool.true_and]
                  rw[e];rfl
                ·cases hs:(iG t x.a x.b).2
                 ·rfl
                 ·obtain⟨⟨y,hy,hem⟩,hw⟩:=hn hs
                  have:=oa hT hy hem
                  dsimp only[cdT,cdF,bnS,Bool.or_false,Bool.true_and]
                  rw[hw,f104_eq t x.n 0 _ (by
                   rw[←hw,w64 (x:=(List.length e.ins:Int)+(List.length e.outs:Int)) oM oM,w64 oM oM]
                   omega)]
                  rfl
               ·rfl
              ·rfl
             ·rfl
            ·rfl
           ·rfl
          ·rfl
         ·obtain⟨a1,a2,a3,a4⟩:=pp hm (of_decide_eq_true h32)
          rw[f109_eq t x.to x.m a1 oM oM a4 hl]
          rfl
        ·rfl
       ·rfl
      ·rfl
     ·rw[f104_eq t x.n x.m x.b (po hm (.inr (of_decide_eq_true h6)))];rfl
    ·rw[f104_eq t x.n x.m x.b (po hm (.inl (of_decide_eq_true h5)))];rfl
   ·rfl
  ·rfl
theorem mg:∀(N:Nat)(L:List Nat),L.Nodup→(∀x∈L,x<N)→L.length≤N
 |0,[],_,_=>Nat.le_refl _
 |0,x::L,_,h=>absurd (h x List.mem_cons_self) (Nat.not_lt_zero _)
 |N+1,L,hn,h=>by
  by_cases hm:N∈L
  ·have h1:=List.length_erase_of_mem hm
   have h2:=mg N (L.erase N) (hn.erase N) (λx hx=>by
    have h3:=h x (List.mem_of_mem_erase hx)
    have h4:x≠N:=λe=>by subst e;exact hn.not_mem_erase hx
    omega)
   omega
  ·have:=mg N L hn (λx hx=>by
    have h3:=h x hx
    have h4:x≠N:=λe=>hm (e▸hx)
    omega)
   omega
def szS(L:List Obj):Nat:=(L.map λo=>o.size.toNat).sum
theorem mS:∀(L:List Obj)(a:Int),(∀o∈L,1≤o.size∧o.size≤16384)→0≤a→a+16384*(L.length:Int)≤9223372036854775807→jM a L=a+(szS L:Int)
 |[],a,_,_,_=>by simp[jM,szS]
 |o::L,a,h,h0,h1=>by
  have ho:=h o List.mem_cons_self
  have hl:((o::L).length:Int)=(L.length:Int)+1:=sM
  rw[hl] at h1
  have ih:=mS L (a+o.size) (λx hx=>h x (List.mem_cons_of_mem _ hx)) oM oM
  have e1:jM a (o::L)=jM (a+o.size) L:=by
   show jM (IntKind.i64.wrap (a+o.size)) L=_
   rw[w64 oM oM]
  have e2:szS (o::L)=o.size.toNat+szS L:=by simp[szS]
  rw[e1,ih,e2]
  push_cast
  omega
theorem fE{L:List Obj}{i:Nat}(h:i<L.length):szS (L.take (i+1))=szS (L.take i)+L[i].size.toNat:=by
 unfold szS
 rw[List.take_succ_eq_append_getElem h,List.map_append,List.sum_append,List.map_cons,List.map_nil,List.sum_cons,List.sum_nil,Nat.add_zero]
theorem ib{L:List Obj}:∀{i j:Nat},i≤j→szS (L.take i)≤szS (L.take j):=by
 intro i j h
 induction h with
 |refl=>exact Nat.le_refl _
 |step h ih=>
  rename_i m
  by_cases hm:m<L.length
  ·rw[fE hm];omega
  ·have e:L.take (m+1)=L.take m:=by rw[List.take_of_length_le oM,List.take_of_length_le oM]
   rw[e];exact ih
def pos(os:List Obj)(x:cw):Nat:=szS (os.take x.o.toNat)+x.slot.toNat
theorem fj{os:List Obj}(ho:∀o∈os,1≤o.size∧o.size≤16384){x:cw}(h:cK os x=true):0≤x.o∧x.o.toNat<os.length∧0≤x.slot∧∀h:x.o.toNat<os.length,x.slot.toNat<os[x.o.toNat].size.toNat:=by
 unfold cK at h
 rw[Bool.and_eq_true] at h
 obtain⟨y,hy,h1,h2⟩:=fH h.1
 have hb:=it hy
 have hsz:=ho y (gY hy)
 rw[w64 oM oM] at h2
 refine⟨hb.1,oM,h1,λhh=>?_⟩
 have e:os[x.o.toNat]=y:=by
  have:=au hh
  rw[show((x.o.toNat:Nat):Int)=x.o by omega,hy] at this
  exact(inS this).symm
 rw[e]
 omega
theorem sf{os:List Obj}(ho:∀o∈os,1≤o.size∧o.size≤16384){x:cw}(h:cK os x=true):pos os x<szS os:=by
 obtain⟨_,h1,_,h2⟩:=fj ho h
 have h3:=h2 h1
 have h4:=fE h1
 have h5:=ib (L:=os) (i:=x.o.toNat+1) (j:=os.length) oM
 rw[List.take_length] at h5
 unfold pos
 omega
theorem qe{os:List Obj}(ho:∀o∈os,1≤o.size∧o.size≤16384){x y:cw}(hx:cK os x=true)(hy:cK os y=true)(h:pos os x=pos os y):x.o=y.o∧x.slot=y.slot:=by
 obtain⟨a0,a1,a2,a3⟩:=fj ho hx
 obtain⟨b0,b1,b2,b3⟩:=fj ho hy
 have a4:=a3 a1
 have b4:=b3 b1
 have a5:=fE a1
 have b5:=fE b1
 unfold pos at h
 rcases Nat.lt_trichotomy x.o.toNat y.o.toNat with hlt|heq|hgt
 ·have:=ib (L:=os) (i:=x.o.toNat+1) (j:=y.o.toNat) hlt
  omega
 ·rw[heq] at h
  omega
 ·have:=ib (L:=os) (i:=y.o.toNat+1) (j:=x.o.toNat) hgt
  omega
theorem gM{os:List Obj}(ho:∀o∈os,1≤o.size∧o.size≤16384):∀(r P:List cw),eg os P r=true→(∀x∈P,cK os x=true)→(P.map (pos os)).Nodup→((P++r).map (pos os)).Nodup∧∀x∈P++r,cK os x=true
 |[],P,_,h1,h2=>by rw[List.append_nil];exact⟨h2,h1⟩
 |x::r,P,h,h1,h2=>by
  rw[eg] at h
  simp only[Bool.and_eq_true] at h
  obtain⟨⟨hx,hP⟩,hr⟩:=h
  have ih:=gM ho r (P++ [x]) hr (λy hy=>by
   rcases List.mem_append.1 hy with hy|hy
   ·exact h1 y hy
   ·rw[List.mem_singleton] at hy;subst hy;exact hx) (by
   rw[List.map_append,List.nodup_append]
   refine⟨h2,sM,λa ha b hb=>?_⟩
   simp only[List.map_cons,List.map_nil,List.mem_singleton] at hb
   subst hb
   intro e
   obtain⟨y,hy,rfl⟩:=List.mem_map.1 ha
   have hi:=qe ho (h1 y hy) hx e
   have:=List.all_eq_true.1 hP y hy
   unfold neI at this
   rw[dcT hi.1,dcT hi.2] at this
   cases this)
  rw[List.append_assoc,List.singleton_append] at ih
  exact ih
theorem jn{os:List Obj}(h:os.all (cN os)=true):∀o∈os,1≤o.size∧o.size≤16384:=λo ho=>by
 have:=List.all_eq_true.1 h o ho
 unfold cN at this
 simp only[Bool.and_eq_true,Bool.not_eq_true',Bool.or_eq_false_iff,decide_eq_false_iff_not] at this
 omega
theorem f38_eq(t:af)(hl:t.inits.length<9223372036854775808)(hs:∀o∈t.objs,o.set_.length<9223372036854775808):f38 t=some (gJ t):=by
 unfold f38 gJ
 cases h1:(decide ((t.objs.length:Int)>4096)||decide (t.excs<4))||decide (t.excs>64)
 ·have hol:(t.objs.length:Int)≤4096:=by
   simp only[Bool.or_eq_false_iff,decide_eq_false_iff_not] at h1
   omega
  rw[Bool.false_or,Bool.not_false,Bool.true_and]
  have hi:eg t.objs [] t.inits=bX t.objs [] t.inits:=jp t.objs t.inits []
  have core:f38_l1 t (λn111=>ap (λ(_:Unit)=>some (decide (n111≤65536))) λk122=>f38_l2 t k122 9223372036854775808 0) 9223372036854775808 0 0=some (t.objs.all (cN t.objs)&&(bX t.objs [] t.inits&&decide (jM 0 t.objs≤65536))):=by
   rw[f38_l1_eq t _ oM hs _ 0 0 0 rfl (Nat.zero_le _) oM,List.drop_zero]
   cases t.objs.all (cN t.objs)
   ·rfl
   ·rw[cdT,am,f38_l2_eq t _ hl hs _ 0 0 rfl (Nat.zero_le _) oM,List.drop_zero,List.take_zero,hi]
    cases bX t.objs [] t.inits<;>rfl
  by_cases h2:(t.inits.length:Int)>65536
  ·rw[dcT h2,cdT]
   congr 1
   cases ha:t.objs.all (cN t.objs)
   ·rfl
   ·have ho:=jn ha
    rw[Bool.true_and]
    cases hb:bX t.objs [] t.inits
    ·rfl
    ·rw[Bool.true_and]
     have hn:=gM ho t.inits [] (by rw[hi];exact hb) (λx hx=>by cases hx) List.nodup_nil
     rw[List.nil_append] at hn
     have hp:=mg (szS t.objs) (t.inits.map (pos t.objs)) hn.1 (λx hx=>by
      obtain⟨y,hy,rfl⟩:=List.mem_map.1 hx
      exact sf ho (hn.2 y hy))
     rw[List.length_map] at hp
     have hS:=mS t.objs 0 ho oM oM
     rw[dcF]
     omega
  ·rw[dcF h2,cdF,am]
   exact core
 ·rw[Bool.true_or];rfl
theorem f11_l1_eq(t:af)(r:Option Bool)(hT:cA t=true)(hl:t.insns.length≤65536)(n:Nat)(hn:n=9223372036854775808):f11_l1 t (λ_=>r) n 0=bif t.insns.all (gt t) then r else some false:=by
 refine eW t.insns (f11_l1 t λ_=>r) r (gt t) n hn oM (λm i hi=>?_) (λm=>by rw[f11_l1,dM,cdF])
 rw[f11_l1,eK hi,cdT,au hi,bnS,w1 hi oM,f44_eq t _ hT hl,bnS]
 cases gt t t.insns[i]<;>rfl
theorem f11_eq(t:af)(h:Sz t)(ha:SzA t):f11 t=some (ot t):=by
 unfold f11 ot
 cases h1:decide ((t.insns.length:Int)<1)||decide ((t.insns.length:Int)>65536)
 ·have hol:(1:Int)≤t.insns.length∧(t.insns.length:Int)≤65536:=by
   simp only[Bool.or_eq_false_iff,decide_eq_false_iff_not] at h1
   omega
  rw[cdF,f38_eq t h.inits h.sets,f39_eq,f40_eq t h.checks,f42_eq,f43_eq]
  cases hO:gJ t
  ·simp
  ·cases hT:cA t
   ·simp
   ·have ho:∀o∈t.objs,1≤o.size∧o.size≤16384:=by
     unfold gJ at hO
     simp only[Bool.and_eq_true] at hO
     exact jn hO.2.1
    rw[f41_eq t ha (λo y hy=>by have:=ho y (gY hy);omega)]
    obtain⟨x,hx,_⟩:=aL (L:=t.insns) (i:=(t.insns.length:Int) - 1) oM
    rw[am,w64 oM oM,f11_l1_eq t _ hT oM _ rfl]
    unfold nf
    rw[hx]
    dsimp only[bnS]
    have e:jV x=(((decide (x.op=29)||decide (x.op=33))||decide (x.op=34))||decide (x.op=57)):=by
     unfold jV
     simp only[Bool.or_assoc]
    rw[e]
    generalize(((decide (x.op=29)||decide (x.op=33))||decide (x.op=34))||decide (x.op=57))=b0
    generalize t.insns.all (gt t)=b9
    cases fc t
    ·simp
    ·cases fW t (-1) t.checks
     ·simp
     ·cases ie t
      ·simp
      ·cases fg t
       ·simp
       ·cases iu t
        ·simp
        ·cases mm t
         ·simp
         ·cases b0<;>cases b9<;>rfl
 ·rfl
theorem nv(t:af)(pc c:Int)(k:Unit→Option Int)(hl:t.handlers.length<9223372036854775808)(hc:c≠0):∀(n m i:Nat)(z:Int),z=(i:Int)→i≤t.handlers.length→t.handlers.length<n+i→t.handlers.length<m+i→
  f114_l1 t pc c k n z=f48_l1 t.handlers (λz0=>some (f49 z0 pc c)) k m z
 |0,m,i,z,_,_,h,_=>oM
 |n+1,0,i,z,_,_,_,h=>oM
 |n+1,m+1,i,z,hz,hi,h,h'=>by
  subst hz
  rw[f114_l1,f48_l1]
  by_cases hh:i<t.handlers.length
  ·rw[dcT (by omega:(i:Int)<(t.handlers.length:Int)),dcF hc,Bool.not_false,Bool.and_true,cdT,cdT,au hh,bnS,bnS,bnS]
   have e:f49 t.handlers[i] pc c=((decide (t.handlers[i].from_≤pc)&&decide (pc<t.handlers[i].to))&&(decide (c>0)||t.handlers[i].clean)):=by
    unfold f49 f50
    cases decide (t.handlers[i].from_≤pc)<;>cases decide (pc<t.handlers[i].to)<;>cases decide (c>0)<;>cases t.handlers[i].clean<;>rfl
   rw[e]
   cases ((decide (t.handlers[i].from_≤pc)&&decide (pc<t.handlers[i].to))&&(decide (c>0)||t.handlers[i].clean))
   ·rw[cdF,cdF,w64 oM oM]
    exact nv t pc c k hl hc n m (i+1) _ (by push_cast;rfl) oM oM oM
   ·rfl
  ·rw[dcF (by omega:¬(i:Int)<(t.handlers.length:Int)),Bool.false_and,cdF,cdF]
theorem f48_l1_ix(L:List az)(p:az→Bool)(hl:L.length<9223372036854775808):∀(n i:Nat)(z:Int),z=(i:Int)→i≤L.length→L.length<n+i→∃r,f48_l1 L (λz0=>some (p z0)) (λ_=>some (-1)) n z=some r∧(r<0∨∃h,idx L r=some h)
 |0,i,z,_,_,h=>oM
 |n+1,i,z,hz,hi,h=>by
  subst hz
  rw[f48_l1]
  by_cases hh:i<L.length
  ·rw[dcT (by omega:(i:Int)<(L.length:Int)),cdT,au hh,bnS,bnS]
   cases p L[i]
   ·rw[cdF,w64 oM oM]
    exact f48_l1_ix L p hl n (i+1) _ (by push_cast;rfl) oM oM
   ·exact⟨_,rfl, .inr ⟨_,au hh⟩⟩
  ·rw[dcF (by omega:¬(i:Int)<(L.length:Int)),cdF]
   exact⟨_,rfl, .inl oM⟩
theorem at_eq(t:af)(hs:Sz t)(ha:SzA t)(pc c:Int)(hl:t.handlers.length<9223372036854775808):∃r,f15 t pc c=some r∧f16 t pc c=some r:=by
 unfold f15 f16
 rw[f10_eq t hs,f11_eq t hs ha,bnS,bnS]
 have hex:f47 (aT.mk t) pc=f51 t pc:=by
  unfold f47 f51
  rfl
 by_cases hc:c=0
 ·subst hc
  refine⟨(0,false),rfl,?_⟩
  have e:f114 t pc 0=some (-1):=by
   unfold f114
   rw[am,show(9223372036854775808:Nat)=9223372036854775807+1 from rfl,f114_l1]
   simp
  unfold f52
  rw[e]
  cases ((!ot t)|| !f51 t pc)<;>rfl
 ·rw[dcF hc,cdF,bnS,hex]
  cases ((!ot t)|| !f51 t pc)
  ·have e:f114 t pc c=f48 t.handlers (λz0=>some (f49 z0 pc c)):=by
    unfold f114 f48
    rw[am,am]
    exact nv t pc c _ hl hc _ _ 0 0 rfl (Nat.zero_le _) oM oM
   unfold f52
   rw[e,cdF,cdF]
   have h48:∃r,f48 t.handlers (λz0=>some (f49 z0 pc c))=some r∧(r<0∨∃h,idx t.handlers r=some h):=by
    unfold f48
    rw[am]
    exact f48_l1_ix _ _ hl _ 0 0 rfl (Nat.zero_le _) oM
   obtain⟨r,h1,h2⟩:=h48
   rw[h1,bnS]
   rcases h2 with h2|⟨y,h2⟩
   ·rw[dcT h2]
    exact⟨_,rfl,rfl⟩
   ·cases decide (r<0)
    ·rw[cdF,h2]
     exact⟨_,rfl,rfl⟩
    ·exact⟨_,rfl,rfl⟩
  ·exact⟨_,rfl,rfl⟩
theorem sk(t:af)(hs:Sz t)(ha:SzA t)(pc c:Int)(hl:t.handlers.length<9223372036854775808)(h8:∃b,f8 t=some b):f4 t pc c=some true:=by
 obtain⟨b,hb⟩:=h8
 obtain⟨r,h1,h2⟩:=at_eq t hs ha pc c hl
 unfold f4 f9
 rw[hb,bnS]
 cases b
 ·rw[cdF,h1,h2,bnS,bnS]
  simp
 ·rfl
def Tot{α:Type}(x:Option α):Prop:=∃r,x=some r
theorem Tot.cb{α:Type}{c:Bool}{a b:Option α}(h1:c=true→Tot a)(h2:c=false→Tot b):Tot (bif c then a else b):=by
 cases c
 ·exact h2 rfl
 ·exact h1 rfl
theorem pi(t:af)(k:Int→Option Bool)(hk:∀n,Tot (k n))(hl:t.selects.length<9223372036854775808):∀(n i:Nat)(a z:Int),z=(i:Int)→i≤t.selects.length→t.selects.length<n+i→Tot (f8_l1 t k n a z)
 |0,i,a,z,_,_,h=>oM
 |n+1,i,a,z,hz,hi,h=>by
  subst hz
  rw[f8_l1]
  by_cases hh:i<t.selects.length
  ·rw[dcT (by omega:(i:Int)<(t.selects.length:Int)),cdT,au hh,bnS,w64 (x:=(i:Int)+1) oM oM]
   exact pi t k hk hl n (i+1) _ _ (by push_cast;rfl) oM oM
  ·rw[dcF (by omega:¬(i:Int)<(t.selects.length:Int)),cdF]
   exact hk _
theorem ph(t:af)(k:Int→Option Bool)(hk:∀n,Tot (k n))(hl:t.lists.length<9223372036854775808):∀(n i:Nat)(a z:Int),z=(i:Int)→i≤t.lists.length→t.lists.length<n+i→Tot (f8_l2 t k n a z)
 |0,i,a,z,_,_,h=>oM
 |n+1,i,a,z,hz,hi,h=>by
  subst hz
  rw[f8_l2]
  by_cases hh:i<t.lists.length
  ·rw[dcT (by omega:(i:Int)<(t.lists.length:Int)),cdT,au hh,bnS,w64 (x:=(i:Int)+1) oM oM]
   exact ph t k hk hl n (i+1) _ _ (by push_cast;rfl) oM oM
  ·rw[dcF (by omega:¬(i:Int)<(t.lists.length:Int)),cdF]
   exact hk _
theorem pg(t:af)(k:Int→Option Bool)(hk:∀n,Tot (k n))(hl:t.objs.length<9223372036854775808):∀(n i:Nat)(a z:Int),z=(i:Int)→i≤t.objs.length→t.objs.length<n+i→Tot (f8_l3 t k n a z)
 |0,i,a,z,_,_,h=>oM
 |n+1,i,a,z,hz,hi,h=>by
  subst hz
  rw[f8_l3]
  by_cases hh:i<t.objs.length
  ·rw[dcT (by omega:(i:Int)<(t.objs.length:Int)),cdT,au hh,bnS,bnS,w64 (x:=(i:Int)+1) oM oM]
   exact pg t k hk hl n (i+1) _ _ (by push_cast;rfl) oM oM
  ·rw[dcF (by omega:¬(i:Int)<(t.objs.length:Int)),cdF]
   exact hk _
theorem pb(t:af)(u:Nat)(hu:u<t.tasks.length)(k:Int→Option Bool)(hk:∀n,Tot (k n)):∀(n i:Nat)(a z:Int),z=(i:Int)→i≤100→100<n+i→Tot (f8_l5 t (u:Int) k n a z)
 |0,i,a,z,_,_,h=>oM
 |n+1,i,a,z,hz,hi,h=>by
  subst hz
  rw[f8_l5]
  rw[au hu,bnS]
  refine Tot.cb (λhc=>?_) (λ_=>hk _)
  rw[Bool.and_eq_true,decide_eq_true_eq,decide_eq_true_eq] at hc
  have hh:i<t.tasks[u].entries.length:=oM
  simp only[bnS,au hh,w64 (x:=(i:Int)+1) oM oM]
  exact pb t u hu k hk n (i+1) _ _ (by push_cast;rfl) oM oM
theorem pf(t:af)(k:Int→Option Bool)(hk:∀n,Tot (k n))(hl:t.tasks.length<9223372036854775808):∀(n i:Nat)(a z:Int),z=(i:Int)→i≤t.tasks.length→t.tasks.length<n+i→Tot (f8_l4 t k n a z)
 |0,i,a,z,_,_,h=>oM
 |n+1,i,a,z,hz,hi,h=>by
  subst hz
  rw[f8_l4]
  refine Tot.cb (λhc=>?_) (λ_=>hk _)
  rw[Bool.and_eq_true,decide_eq_true_eq] at hc
  have hh:i<t.tasks.length:=oM
  rw[am,am]
  refine pb t i hh _ (λb=>?_) _ 0 _ _ rfl oM oM
  rw[au hh,bnS,w64 (x:=(i:Int)+1) oM oM]
  exact pf t k hk hl n (i+1) _ _ (by push_cast;rfl) oM oM
theorem nm{e:aq}:∀{l:List aq},e∈l→mv e≤depL l
 |[],h=>by cases h
 |x::l,h=>by
  rw[depL]
  rcases List.mem_cons.1 h with rfl|h
  ·omega
  ·have:=nm h;omega
theorem oD(rec_:aq→Option Int)(e:aq)(k:Int→Option Int)(hk:∀n,Tot (k n))(hr:∀x∈e.l,Tot (rec_ x))(N:Nat):∀(n i:Nat)(a z:Int),z=(i:Int)→i≤e.l.length→e.l.length<9223372036854775808→e.l.length<n+i→Tot (f24s_l1 rec_ e k n a z)
 |0,i,a,z,_,_,_,h=>oM
 |n+1,i,a,z,hz,hi,hl,h=>by
  subst hz
  rw[f24s_l1]
  refine Tot.cb (λhc=>?_) (λ_=>hk _)
  rw[Bool.and_eq_true,decide_eq_true_eq] at hc
  have hh:i<e.l.length:=oM
  obtain⟨r,h1⟩:=hr _ (List.getElem_mem hh)
  rw[au hh,bnS,h1,bnS,w64 (x:=(i:Int)+1) oM oM]
  exact oD rec_ e k hk hr N n (i+1) _ _ (by push_cast;rfl) oM hl oM
mutual
def SzE:aq→Prop
 | .mk _ _ _ _ _ _ _ _ l=>l.length<9223372036854775808∧SzEs l
def SzEs:List aq→Prop
 |[]=>True
 |e::l=>SzE e∧SzEs l
end
theorem lw{e:aq}:∀{l:List aq},SzEs l→e∈l→SzE e
 |[],_,h=>by cases h
 |x::l,h,hm=>by
  rw[SzEs] at h
  rcases List.mem_cons.1 hm with rfl|hm
  ·exact h.1
  ·exact lw h.2 hm
theorem f24_tot:∀(n:Nat)(e:aq),SzE e→mv e≤n→Tot (f24 n e)
 |0, .mk a b c d x f g h l,_,hd=>by rw[mv] at hd;omega
 |n+1, .mk a b c d x f g h l,hs,hd=>by
  rw[mv] at hd
  rw[SzE] at hs
  show Tot (f24s (f24 n) _)
  unfold f24s
  rw[am]
  refine oD (f24 n) _ _ (λn=>⟨_,rfl⟩) (λy hy=>f24_tot n y (lw hs.2 hy) (by have:=nm hy;dsimp only at this;omega)) 0 _ 0 _ _ rfl (Nat.zero_le _) hs.1 (by have:=hs.1;dsimp only;omega)
theorem o9(t:af)(u:Nat)(hu:u<t.prots.length)(k:Int→Option Bool)(hk:∀n,Tot (k n))(hp:∀p∈t.prots,∀b∈p.barriers,SzE b):∀(n i:Nat)(a z:Int),z=(i:Int)→i≤100→100<n+i→Tot (f8_l7 t (u:Int) k n a z)
 |0,i,a,z,_,_,h=>oM
 |n+1,i,a,z,hz,hi,h=>by
  subst hz
  rw[f8_l7]
  rw[au hu,bnS]
  refine Tot.cb (λhc=>?_) (λ_=>hk _)
  rw[Bool.and_eq_true,Bool.and_eq_true,decide_eq_true_eq,decide_eq_true_eq] at hc
  have hh:i<t.prots[u].barriers.length:=oM
  obtain⟨r,h1⟩:=f24_tot _ t.prots[u].barriers[i] (hp _ (List.getElem_mem hu) _ (List.getElem_mem hh)) (Nat.le_refl _)
  have h1:f24w t.prots[u].barriers[i]=some r:=h1
  simp only[bnS,au hh,h1,w64 (x:=(i:Int)+1) oM oM]
  exact o9 t u hu k hk hp n (i+1) _ _ (by push_cast;rfl) oM oM
theorem pa(t:af)(k:Int→Option Bool)(hk:∀n,Tot (k n))(hl:t.prots.length<9223372036854775808)(hp:∀p∈t.prots,∀b∈p.barriers,SzE b):∀(n i:Nat)(a z:Int),z=(i:Int)→i≤t.prots.length→t.prots.length<n+i→Tot (f8_l6 t k n a z)
 |0,i,a,z,_,_,h=>oM
 |n+1,i,a,z,hz,hi,h=>by
  subst hz
  rw[f8_l6]
  refine Tot.cb (λhc=>?_) (λ_=>hk _)
  rw[Bool.and_eq_true,decide_eq_true_eq] at hc
  have hh:i<t.prots.length:=oM
  rw[am,au hh,bnS]
  refine o9 t i hh _ (λb=>?_) hp _ 0 _ _ rfl oM oM
  rw[w64 (x:=(i:Int)+1) oM oM]
  exact pa t k hk hl hp n (i+1) _ _ (by push_cast;rfl) oM oM
structure SzL(t:af):Prop where
 handlers:t.handlers.length<9223372036854775808
 selects:t.selects.length<9223372036854775808
 lists:t.lists.length<9223372036854775808
 objs:t.objs.length<9223372036854775808
 tasks:t.tasks.length<9223372036854775808
 prots:t.prots.length<9223372036854775808
 exprs:∀p∈t.prots,∀b∈p.barriers,SzE b
theorem f8_tot(t:af)(h:SzL t):∃b,f8 t=some b:=by
 have key:Tot (f8 t):=by
  unfold f8
  refine Tot.cb (λ_=>⟨_,rfl⟩) (λ_=>?_)
  rw[am]
  refine pi t _ (λn=>?_) h.selects _ 0 _ _ rfl (Nat.zero_le _) (by have:=h.selects;omega)
  rw[am]
  refine ph t _ (λn=>?_) h.lists _ 0 _ _ rfl (Nat.zero_le _) (by have:=h.lists;omega)
  rw[am]
  refine pg t _ (λn=>?_) h.objs _ 0 _ _ rfl (Nat.zero_le _) (by have:=h.objs;omega)
  rw[am]
  refine pf t _ (λn=>?_) h.tasks _ 0 _ _ rfl (Nat.zero_le _) (by have:=h.tasks;omega)
  rw[am]
  exact pa t _ (λn=>⟨_,rfl⟩) h.prots h.exprs _ 0 _ _ rfl (Nat.zero_le _) (by have:=h.prots;omega)
 exact key
theorem sm(t:af)(hs:Sz t)(ha:SzA t)(hz:SzL t)(pc c:Int):f4 t pc c=some true:=sk t hs ha pc c hz.handlers (f8_tot t hz)
end Go.Proofs.YtejcfgjpdocaoaaGreatDoor
