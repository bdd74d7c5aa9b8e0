/- Part of the proof. -/
import Derived.KernelRfl
import Derived.Test.YtkbahggepncliaaGreatDoorO
set_option linter.unusedVariables false
set_option linter.unusedSimpArgs false
set_option linter.unusedSectionVars false
set_option linter.unnecessarySimpa false
namespace Go.Proofs.YtkbahggepncliaaGreatDoor
open Go Go.Sk
set_option maxRecDepth 100000
theorem f9_ok:f9=some true:=by decide+kernel
set_option maxRecDepth 10000
theorem w64{x:Int}(h1: -9223372036854775808≤x)(h2:x≤9223372036854775807):IntKind.i64.wrap x=x:=by
 rw[IntKind.wrap_i64];omega
theorem al{α β:Sort _}(k:α)(f:α→β):letk k f=f k:=rfl
theorem aQ{α:Type}{L:List α}{i:Nat}(h:i<L.length):idx L (i:Int)=some L[i]:=by
 unfold idx
 rw[dcT (Int.natCast_nonneg i)]
 simp[h]
theorem fh{α:Type}{L:List α}{i:Int}(h:¬(0≤i∧i<L.length)):idx L i=none:=by
 unfold idx
 by_cases h0:0≤i
 ·rw[dcT h0,cdT]
  exact List.getElem?_eq_none oM
 ·rw[dcF h0,cdF]
theorem bX{α:Type}{L:List α}{i:Int}{x:α}(h:idx L i=some x):0≤i∧i<L.length:=⟨ae h,dw h⟩
theorem bN{α:Type}{L:List α}{i:Int}(h:0≤i∧i<L.length):∃x,idx L i=some x∧x∈L:=by
 obtain⟨n,rfl⟩:=Int.eq_ofNat_of_zero_le h.1
 exact⟨_,aQ (show n<L.length by omega),List.getElem_mem _⟩
theorem bY{α:Type}{L:List α}{i:Int}{x:α}(h:idx L i=some x):x∈L:=List.mem_of_getElem? (bB h)
theorem aH{α:Type}{L:List α}{i:Nat}(h:i<L.length):L.drop i=L[i]::L.drop (i+1):=List.drop_eq_getElem_cons h
theorem bH{α:Type}{c:Bool}(o:Option α)(h:c=true):ay c o=o:=by rw[h];rfl
def inM{κ:Type}[DecidableEq κ](m:List (κ×Bool))(x:κ):Bool:=Option.getD (cA m x) false
theorem f149_l1_eq(L:List bS)(cb:bS→Option Bool)(p:bS→Bool)(hl:L.length<9223372036854775808):∀(n i:Nat)(z:Int),z=(i:Int)→i≤L.length→L.length<n+i→(∀x∈L.drop i,cb x=some (p x))→∃r,f149_l1 L cb (λ_=>some (-1)) n z=some r∧decide (r≥0)=(L.drop i).any p
 |0,i,z,_,_,h,_=>oM
 |n+1,i,z,hz,hi,h,hp=>by
  subst hz
  rw[f149_l1]
  by_cases hh:i<L.length
  ·rw[aH hh] at hp⊢
   rw[dcT (by omega:(i:Int)<(L.length:Int)),cdT,aQ hh,bnS,hp _ List.mem_cons_self,bnS,List.any_cons]
   cases hc:p L[i]
   ·rw[cdF,w64 oM oM,Bool.false_or]
    exact f149_l1_eq L cb p hl n (i+1) _ (by push_cast;rfl) oM oM (λx hx=>hp x (List.mem_cons_of_mem _ hx))
   ·exact⟨_,rfl,by rw[Bool.true_or];exact dcT oM⟩
  ·rw[dcF (by omega:¬(i:Int)<(L.length:Int)),cdF,List.drop_eq_nil_of_le oM]
   exact⟨_,rfl,rfl⟩
theorem f149_eq(L:List bS)(cb:bS→Option Bool)(p:bS→Bool)(hl:L.length<9223372036854775808)(hp:∀x∈L,cb x=some (p x)):∃r,f149 L cb=some r∧decide (r≥0)=L.any p:=by
 unfold f149
 rw[al]
 exact f149_l1_eq L cb p hl _ 0 0 rfl (Nat.zero_le _) oM hp
theorem f113_eq(L:List bS)(cb:bS→Option Bool)(p:bS→Bool)(hl:L.length<9223372036854775808)(hp:∀x∈L,cb x=some (p x)):f113 L cb=some (L.any p):=by
 obtain⟨r,h1,h2⟩:=f149_eq L cb p hl hp
 unfold f113
 rw[h1,bnS,h2]
theorem f158_l1_eq(L:List Int)(cb:Int→Option Bool)(p:Int→Bool)(hl:L.length<9223372036854775808):∀(n i:Nat)(z:Int),z=(i:Int)→i≤L.length→L.length<n+i→(∀x∈L.drop i,cb x=some (p x))→∃r,f158_l1 L cb (λ_=>some (-1)) n z=some r∧decide (r≥0)=(L.drop i).any p
 |0,i,z,_,_,h,_=>oM
 |n+1,i,z,hz,hi,h,hp=>by
  subst hz
  rw[f158_l1]
  by_cases hh:i<L.length
  ·rw[aH hh] at hp⊢
   rw[dcT (by omega:(i:Int)<(L.length:Int)),cdT,aQ hh,bnS,hp _ List.mem_cons_self,bnS,List.any_cons]
   cases hc:p L[i]
   ·rw[cdF,w64 oM oM,Bool.false_or]
    exact f158_l1_eq L cb p hl n (i+1) _ (by push_cast;rfl) oM oM (λx hx=>hp x (List.mem_cons_of_mem _ hx))
   ·exact⟨_,rfl,by rw[Bool.true_or];exact dcT oM⟩
  ·rw[dcF (by omega:¬(i:Int)<(L.length:Int)),cdF,List.drop_eq_nil_of_le oM]
   exact⟨_,rfl,rfl⟩
theorem f158_eq(L:List Int)(cb:Int→Option Bool)(p:Int→Bool)(hl:L.length<9223372036854775808)(hp:∀x∈L,cb x=some (p x)):∃r,f158 L cb=some r∧decide (r≥0)=L.any p:=by
 unfold f158
 rw[al]
 exact f158_l1_eq L cb p hl _ 0 0 rfl (Nat.zero_le _) oM hp
theorem f128_eq(L:List Int)(cb:Int→Option Bool)(p:Int→Bool)(hl:L.length<9223372036854775808)(hp:∀x∈L,cb x=some (p x)):f128 L cb=some (L.any p):=by
 obtain⟨r,h1,h2⟩:=f158_eq L cb p hl hp
 unfold f128
 rw[h1,bnS,h2]
theorem f123_l1_eq(L:List ak)(cb:ak→Option Bool)(p:ak→Bool)(hl:L.length<9223372036854775808):∀(n i:Nat)(z:Int),z=(i:Int)→i≤L.length→L.length<n+i→(∀x∈L.drop i,cb x=some (p x))→∃r,f123_l1 L cb (λ_=>some (-1)) n z=some r∧decide (r≥0)=(L.drop i).any p
 |0,i,z,_,_,h,_=>oM
 |n+1,i,z,hz,hi,h,hp=>by
  subst hz
  rw[f123_l1]
  by_cases hh:i<L.length
  ·rw[aH hh] at hp⊢
   rw[dcT (by omega:(i:Int)<(L.length:Int)),cdT,aQ hh,bnS,hp _ List.mem_cons_self,bnS,List.any_cons]
   cases hc:p L[i]
   ·rw[cdF,w64 oM oM,Bool.false_or]
    exact f123_l1_eq L cb p hl n (i+1) _ (by push_cast;rfl) oM oM (λx hx=>hp x (List.mem_cons_of_mem _ hx))
   ·exact⟨_,rfl,by rw[Bool.true_or];exact dcT oM⟩
  ·rw[dcF (by omega:¬(i:Int)<(L.length:Int)),cdF,List.drop_eq_nil_of_le oM]
   exact⟨_,rfl,rfl⟩
theorem f123_eq(L:List ak)(cb:ak→Option Bool)(p:ak→Bool)(hl:L.length<9223372036854775808)(hp:∀x∈L,cb x=some (p x)):∃r,f123 L cb=some r∧decide (r≥0)=L.any p:=by
 unfold f123
 rw[al]
 exact f123_l1_eq L cb p hl _ 0 0 rfl (Nat.zero_le _) oM hp
theorem f76_eq(L:List ak)(cb:ak→Option Bool)(p:ak→Bool)(hl:L.length<9223372036854775808)(hp:∀x∈L,cb x=some (p x)):f76 L cb=some (L.any p):=by
 obtain⟨r,h1,h2⟩:=f123_eq L cb p hl hp
 unfold f76
 rw[h1,bnS,h2]
def spot(os:List Obj)(o from_ many:Int):Bool:=match idx os o with
 |some x=>decide (0≤from_)&&decide (from_≤IntKind.i64.wrap (x.size - many))
 |none=>false
theorem f111_eq(t:ao)(o f m:Int):f111 ⟨t⟩ o f m=some (spot t.objs o f m):=by
 unfold f111 spot
 by_cases h:0≤o∧o<t.objs.length
 ·obtain⟨x,hx,_⟩:=bN h
  dsimp only
  rw[hx,dcT (show o≥0 from h.1),dcT h.2]
  by_cases hf:0≤f
  ·rw[dcT (show f≥0 from hf)];rfl
  ·rw[dcF (show¬f≥0 from hf)];rfl
 ·dsimp only
  rw[fh h]
  have:(decide (o≥0)&&decide (o<(t.objs.length:Int)))=false:=by
   rw[Bool.and_eq_false_iff]
   simp only[decide_eq_false_iff_not]
   omega
  rw[this];rfl
theorem lG{os:List Obj}{o f m:Int}(h:spot os o f m=true):∃x,idx os o=some x∧0≤f∧f≤IntKind.i64.wrap (x.size - m):=by
 unfold spot at h
 cases hx:idx os o with
 |none=>rw[hx] at h;cases h
 |some x=>
  rw[hx] at h
  simp only[Bool.and_eq_true,decide_eq_true_eq] at h
  exact⟨x,rfl,h⟩
def fits(o:Obj)(v:Int):Bool:=bif o.ptr then decide (v=0)||o.set_.any (λn=>f129 n v) else decide (v≥o.lo)&&decide (v≤o.hi)
theorem f79_eq(o:Obj)(v:Int)(hl:o.set_.length<9223372036854775808):f79 o v=some (fits o v):=by
 unfold f79 fits
 cases hp:o.ptr
 ·rfl
 ·rw[cdT,cdT]
  by_cases hv:v=0
  ·rw[dcT hv];rfl
  ·rw[dcF hv,f128_eq _ _ (λn=>f129 n v) hl λ_ _=>rfl];rfl
def aim(os:List Obj)(x:Int):Bool:=match idx os x with
 |some y=>decide (y.size=1)&& !y.ptr
 |none=>false
def hP(os:List Obj):Int→List Int→Bool
 |_,[]=>true
 |last,x::r=>decide (last<x)&&aim os x&&hP os x r
def fR(os:List Obj)(o:Obj):Bool:=
 !((decide (o.size<1)||decide (o.size>16384))||decide (o.lo>o.hi))&&bif !o.ptr then decide ((o.set_.length:Int)=0) else hP os (-1) o.set_&&(decide (o.lo=0)&&decide (o.hi=0))
theorem f110_l1_eq(t:ao)(o:Obj)(r:Option Bool)(hl:o.set_.length<9223372036854775808):∀(n i:Nat)(z last:Int),z=(i:Int)→i≤o.set_.length→o.set_.length<n+i→-1≤last→
  f110_l1 ⟨t⟩ o (λ_=>r) n last z=bif hP t.objs last (o.set_.drop i) then r else some false
 |0,i,z,last,_,_,h,_=>oM
 |n+1,i,z,last,hz,hi,h,hla=>by
  subst hz
  rw[f110_l1]
  by_cases hh:i<o.set_.length
  ·rw[aH hh,hP]
   rw[dcT (by omega:(i:Int)<(o.set_.length:Int)),cdT,aQ hh,bnS]
   generalize o.set_[i]=x
   dsimp only
   by_cases h1:last<x
   ·rw[dcT h1,dcF (show¬x≤last by omega),Bool.false_or,Bool.true_and]
    unfold aim
    by_cases h2:x<t.objs.length
    ·obtain⟨y,hy,_⟩:=bN (L:=t.objs) (i:=x) oM
     rw[dcF (show¬x≥(t.objs.length:Int) by omega),cdF,hy]
     simp only[bnS]
     by_cases h3:y.size=1
     ·rw[dcT h3]
      cases h4:y.ptr
      ·rw[w64 oM oM]
       exact f110_l1_eq t o r hl n (i+1) _ x (by push_cast;rfl) oM oM oM
      ·rfl
     ·rw[dcF h3];rfl
    ·rw[fh oM,dcT (show x≥(t.objs.length:Int) by omega)];rfl
   ·rw[dcF h1,dcT (show x≤last by omega)];rfl
  ·rw[dcF (by omega:¬(i:Int)<(o.set_.length:Int)),cdF,List.drop_eq_nil_of_le oM]
   rfl
theorem f110_eq(t:ao)(o:Obj)(hl:o.set_.length<9223372036854775808):f110 ⟨t⟩ o=some (fR t.objs o):=by
 unfold f110 fR
 cases h1:(decide (o.size<1)||decide (o.size>16384))||decide (o.lo>o.hi)
 ·rw[cdF,al,Bool.not_false,Bool.true_and]
  cases h2:o.ptr
  ·rfl
  ·rw[Bool.not_true,cdF,cdF,f110_l1_eq t o _ hl _ 0 0 (-1) rfl (Nat.zero_le _) oM oM,List.drop_zero]
   cases hP t.objs (-1) o.set_<;>rfl
 ·rfl
def sumF(n:Int)(L:List Obj):Int:=L.foldl (λn x=>IntKind.i64.wrap (n+x.size)) n
theorem f68_l1_eq(t:ao)(k:Int→Option Bool)(hl:t.objs.length<9223372036854775808)(hs:∀o∈t.objs,o.set_.length<9223372036854775808):∀(n i:Nat)(z a:Int),z=(i:Int)→i≤t.objs.length→t.objs.length<n+i→
  f68_l1 ⟨t⟩ k n a z=bif (t.objs.drop i).all (fR t.objs) then k (sumF a (t.objs.drop i)) else some false
 |0,i,z,a,_,_,h=>oM
 |n+1,i,z,a,hz,hi,h=>by
  subst hz
  rw[f68_l1]
  dsimp only
  by_cases hh:i<t.objs.length
  ·rw[aH hh,List.all_cons,dcT (by omega:(i:Int)<(t.objs.length:Int)),cdT,aQ hh,bnS,f110_eq t _ (hs _ (List.getElem_mem _)),bnS,w64 (x:=(i:Int)+1) oM oM]
   cases hc:fR t.objs t.objs[i]
   ·rfl
   ·rw[Bool.not_true,cdF,Bool.true_and,f68_l1_eq t k hl hs n (i+1) _ _ (by push_cast;rfl) oM oM]
    rfl
  ·rw[dcF (by omega:¬(i:Int)<(t.objs.length:Int)),cdF,List.drop_eq_nil_of_le oM]
   rfl
def iK(os:List Obj)(x:eO):Bool:=spot os x.o x.slot 1&&(match idx os x.o with|some y=>fits y x.v|none=>false)
def eG(os:List Obj):List ((Int×Int)×Bool)→List eO→Bool
 |_,[]=>true
 |m,x::r=>(!(inM m (x.o,x.slot)))&&iK os x&&eG os (cq m (x.o,x.slot) true) r
theorem f68_l2_eq(t:ao)(r:Option Bool)(hl:t.inits.length<9223372036854775808)(hs:∀o∈t.objs,o.set_.length<9223372036854775808):∀(n i:Nat)(z:Int)(m:List ((Int×Int)×Bool)),z=(i:Int)→i≤t.inits.length→t.inits.length<n+i→
  f68_l2 ⟨t⟩ (λ_=>r) n z m=bif eG t.objs m (t.inits.drop i) then r else some false
 |0,i,z,m,_,_,h=>oM
 |n+1,i,z,m,hz,hi,h=>by
  subst hz
  rw[f68_l2]
  dsimp only
  by_cases hh:i<t.inits.length
  ·rw[aH hh,eG,dcT (by omega:(i:Int)<(t.inits.length:Int)),cdT,aQ hh,bnS]
   generalize t.inits[i]=x
   rw[f111_eq,w64 oM oM,f68_l2_eq t r hl hs n (i+1) _ _ (by push_cast;rfl) oM oM]
   show Option.bind (bif inM m (x.o,x.slot) then _ else _) _=_
   cases hm:inM m (x.o,x.slot)
   ·unfold iK
    cases hsp:spot t.objs x.o x.slot 1
    ·rfl
    ·obtain⟨y,hy,_⟩:=lG hsp
     rw[hy]
     simp only[Bool.not_false,Bool.not_true,bnS,cdF,Bool.true_and]
     rw[f79_eq _ _ (hs _ (bY hy))]
     cases fits y x.v<;>rfl
   ·rfl
  ·rw[dcF (by omega:¬(i:Int)<(t.inits.length:Int)),cdF,List.drop_eq_nil_of_le oM]
   rfl
def nj(t:ao):Bool:= !((decide ((t.objs.length:Int)>4096)||decide (t.excs<4))||decide (t.excs>64))&&(t.objs.all (fR t.objs)&&(eG t.objs [] t.inits&&decide (sumF 0 t.objs≤65536)))
theorem f68_eq(t:ao)(hl:t.inits.length<9223372036854775808)(hs:∀o∈t.objs,o.set_.length<9223372036854775808):f68 ⟨t⟩=some (nj t):=by
 unfold f68 nj
 dsimp only
 cases h1:(decide ((t.objs.length:Int)>4096)||decide (t.excs<4))||decide (t.excs>64)
 ·have hol:(t.objs.length:Int)≤4096:=by
   simp only[Bool.or_eq_false_iff,decide_eq_false_iff_not] at h1
   omega
  rw[cdF,al,f68_l1_eq t _ oM hs _ 0 0 0 rfl (Nat.zero_le _) oM,al,f68_l2_eq t _ hl hs _ 0 0 [] rfl (Nat.zero_le _) oM]
  simp only[List.drop_zero]
  cases t.objs.all (fR t.objs)<;>cases eG t.objs [] t.inits<;>rfl
 ·rfl
def at1(t:ao)(a:Int):Bool:=decide (a≥0)&&decide (a<(t.insns.length:Int))
theorem f112_eq(t:ao)(a:Int):f112 ⟨t⟩ a=at1 t a:=rfl
theorem ip{t:ao}{a:Int}:at1 t a=true↔0≤a∧a<(t.insns.length:Int):=by
 unfold at1;simp only[Bool.and_eq_true,decide_eq_true_eq,ge_iff_le]
def sy(os:List Obj)(x:Int):Bool:=match idx os x with
 |some y=>decide (y.size=1)
 |none=>false
theorem f150_eq(t:ao)(x:Int):f150 x ⟨t⟩=some (!(sy t.objs x)):=by
 unfold f150 sy
 dsimp only
 by_cases h:0≤x∧x<t.objs.length
 ·obtain⟨y,hy,_⟩:=bN h
  rw[hy,dcF (show¬x<0 by omega),dcF (show¬x≥(t.objs.length:Int) by omega)]
  rfl
 ·rw[fh h]
  have:(decide (x<0)||decide (x≥(t.objs.length:Int)))=true:=by
   rw[Bool.or_eq_true]
   simp only[decide_eq_true_eq]
   omega
  rw[this];rfl
def gr(os:List Obj)(l:List Int):Bool:=decide ((l.length:Int)≤8)&&l.all (sy os)
theorem pq{α:Type}(p:α→Bool)(L:List α):(!(L.any λx=> !(p x)))=L.all p:=by
 induction L with
 |nil=>rfl
 |cons x L ih=>rw[List.any_cons,List.all_cons,←ih,Bool.not_or,Bool.not_not]
theorem f115_eq(t:ao)(l:List Int):f115 ⟨t⟩ l=some (gr t.objs l):=by
 unfold f115 gr
 by_cases h:(l.length:Int)≤8
 ·rw[dcT h,cdT,f128_eq l _ (λx=> !(sy t.objs x)) oM λx _=>f150_eq t x,bnS,pq]
  rfl
 ·rw[dcF h];rfl
def gt(os:List Obj)(e:bS):Bool:=gr os e.ins&&gr os e.outs
theorem f114_eq(t:ao)(e:bS):f114 e ⟨t⟩=some (!(gt t.objs e)):=by
 unfold f114 gt
 rw[f115_eq,f115_eq]
 cases gr t.objs e.ins<;>cases gr t.objs e.outs<;>rfl
def lF(t:ao)(x:dZ):Bool:= !(((((decide (x.prio<0)||decide (x.prio>31))||(!(at1 t x.at_)))||decide (x.deadline<0))||decide (x.deadline>2147483647))||decide ((x.entries.length:Int)>8))&&x.entries.all (gt t.objs)
theorem f69_l1_eq(t:ao)(r:Option Bool)(hl:t.tasks.length<9223372036854775808):∀(n i:Nat)(z:Int),z=(i:Int)→i≤t.tasks.length→t.tasks.length<n+i→
  f69_l1 ⟨t⟩ (λ_=>r) n z=bif (t.tasks.drop i).all (lF t) then r else some false
 |0,i,z,_,_,h=>oM
 |n+1,i,z,hz,hi,h=>by
  subst hz
  rw[f69_l1]
  dsimp only
  by_cases hh:i<t.tasks.length
  ·rw[aH hh,List.all_cons,dcT (by omega:(i:Int)<(t.tasks.length:Int)),cdT,aQ hh,bnS,f112_eq]
   unfold lF
   generalize t.tasks[i]=x
   cases hc:((((decide (x.prio<0)||decide (x.prio>31))||(!(at1 t x.at_)))||decide (x.deadline<0))||decide (x.deadline>2147483647))||decide ((x.entries.length:Int)>8)
   ·have he:(x.entries.length:Int)≤8:=by
     simp only[Bool.or_eq_false_iff,decide_eq_false_iff_not] at hc
     omega
    rw[cdF,f113_eq x.entries _ (λe=> !(gt t.objs e)) oM λe _=>f114_eq t e,bnS,←pq (gt t.objs),w64 oM oM,f69_l1_eq t r hl n (i+1) _ (by push_cast;rfl) oM oM]
    cases x.entries.any λe=> !(gt t.objs e)<;>rfl
   ·rfl
  ·rw[dcF (by omega:¬(i:Int)<(t.tasks.length:Int)),cdF,List.drop_eq_nil_of_le oM]
   rfl
def lE(t:ao):Bool:= !(decide ((t.tasks.length:Int)<1)||decide ((t.tasks.length:Int)>32))&&t.tasks.all (lF t)
theorem f69_eq(t:ao):f69 ⟨t⟩=some (lE t):=by
 unfold f69 lE
 dsimp only
 cases h1:decide ((t.tasks.length:Int)<1)||decide ((t.tasks.length:Int)>32)
 ·have hol:(t.tasks.length:Int)≤32:=by
   simp only[Bool.or_eq_false_iff,decide_eq_false_iff_not] at h1
   omega
  rw[cdF,al,f69_l1_eq t _ oM _ 0 0 rfl (Nat.zero_le _) oM,List.drop_zero]
  cases t.tasks.all (lF t)<;>rfl
 ·rfl
def jW(n:Int):List (Int×Bool)→List Int→Bool
 |_,[]=>true
 |m,x::r=>(!((decide (x<1)||decide (x≥n))||inM m x))&&jW n (cq m x true) r
theorem f70_l2_eq(t:ao)(l:List Int)(r:Option Bool)(hl:l.length<9223372036854775808):∀(n i:Nat)(z:Int)(m:List (Int×Bool)),z=(i:Int)→i≤l.length→l.length<n+i→
  f70_l2 ⟨t⟩ l (λ_=>r) n z m=bif jW t.tasks.length m (l.drop i) then r else some false
 |0,i,z,m,_,_,h=>oM
 |n+1,i,z,m,hz,hi,h=>by
  subst hz
  rw[f70_l2]
  dsimp only
  by_cases hh:i<l.length
  ·rw[aH hh,jW,dcT (by omega:(i:Int)<(l.length:Int)),cdT,aQ hh,bnS,w64 oM oM,f70_l2_eq t l r hl n (i+1) _ _ (by push_cast;rfl) oM oM]
   show(bif (_||inM m l[i]) then _ else _)=_
   cases (decide (l[i]<1)||decide (l[i]≥(t.tasks.length:Int)))||inM m l[i]<;>rfl
  ·rw[dcF (by omega:¬(i:Int)<(l.length:Int)),cdF,List.drop_eq_nil_of_le oM]
   rfl
def pj(t:ao)(l:List Int):Bool:=jW t.tasks.length [] l&& !(decide ((l.length:Int)>32))
theorem f70_l1_eq(t:ao)(r:Option Bool)(hl:t.lists.length<9223372036854775808)(hs:∀l∈t.lists,l.length<9223372036854775808):∀(n i:Nat)(z:Int),z=(i:Int)→i≤t.lists.length→t.lists.length<n+i→
  f70_l1 ⟨t⟩ (λ_=>r) n z=bif (t.lists.drop i).all (pj t) then r else some false
 |0,i,z,_,_,h=>oM
 |n+1,i,z,hz,hi,h=>by
  subst hz
  rw[f70_l1]
  dsimp only
  by_cases hh:i<t.lists.length
  ·rw[aH hh,List.all_cons,dcT (by omega:(i:Int)<(t.lists.length:Int)),cdT,al,aQ hh,bnS,al]
   have hx:=hs _ (List.getElem_mem hh)
   generalize t.lists[i]=x at hx
   unfold pj
   rw[f70_l2_eq t x _ hx _ 0 0 [] rfl (Nat.zero_le _) oM,w64 oM oM,f70_l1_eq t r hl hs n (i+1) _ (by push_cast;rfl) oM oM,List.drop_zero]
   cases jW t.tasks.length [] x<;>cases decide ((x.length:Int)>32)<;>rfl
  ·rw[dcF (by omega:¬(i:Int)<(t.lists.length:Int)),cdF,List.drop_eq_nil_of_le oM]
   rfl
def ma(t:ao):Bool:= !(decide ((t.lists.length:Int)>4096))&&t.lists.all (pj t)
theorem f70_eq(t:ao)(hs:∀l∈t.lists,l.length<9223372036854775808):f70 ⟨t⟩=some (ma t):=by
 unfold f70 ma
 dsimp only
 cases h1:decide ((t.lists.length:Int)>4096)
 ·have hol:(t.lists.length:Int)≤4096:=by
   simp only[decide_eq_false_iff_not] at h1
   omega
  rw[cdF,al,f70_l1_eq t _ oM hs _ 0 0 rfl (Nat.zero_le _) oM,List.drop_zero]
  cases t.lists.all (pj t)<;>rfl
 ·rfl
def lk(t:ao)(obj:Int)(a:kL):Bool:=
 at1 t a.at_&&(decide (a.guard= -1)||spot t.objs obj a.guard 1)&&
 bif decide (a.kind=1) then(decide (a.entry≥0)&&decide (a.entry<8))&&decide (a.time=0)
 else bif decide (a.kind=2)||decide (a.kind=3) then decide (a.entry=0)&&spot t.objs obj a.time 1
 else decide (a.kind=4)&&decide ((IntKind.i64.wrap (BitVec.ofInt IntKind.i64.bits a.entry|||BitVec.ofInt IntKind.i64.bits a.time).toNat)=0)
theorem f155_eq(t:ao)(n o:Int):f155 n ⟨t⟩ o=some (spot t.objs o n 1):=by
 unfold f155
 rw[f111_eq];rfl
theorem f119_eq(t:ao)(o:Int)(a:kL):f119 ⟨t⟩ o a=some (lk t o a):=by
 unfold f119 lk
 rw[f112_eq,f155_eq,f155_eq]
 simp only[al,bnS]
 cases at1 t a.at_
 ·rfl
 ·cases decide (a.guard= -1)
  ·cases spot t.objs o a.guard 1
   ·rfl
   ·cases decide (a.kind=1)
    ·cases decide (a.kind=2)<;>cases decide (a.kind=3)<;>cases decide (a.entry=0)<;>rfl
    ·rfl
  ·cases decide (a.kind=1)
   ·cases decide (a.kind=2)<;>cases decide (a.kind=3)<;>cases decide (a.entry=0)<;>rfl
   ·rfl
theorem f72_l2_eq(t:ao)(x:cY)(k:Int→Option Bool)(a b:Option Bool)(ha:∀i:Int,0≤i→k i=a)(hl:x.alts.length<9223372036854775808):∀(n i:Nat)(z:Int),z=(i:Int)→i≤x.alts.length→x.alts.length<n+i→
  f72_l2 ⟨t⟩ x k (λ_=>b) n z=bif (x.alts.drop i).all (lk t x.obj) then b else a
 |0,i,z,_,_,h=>oM
 |n+1,i,z,hz,hi,h=>by
  subst hz
  rw[f72_l2]
  by_cases hh:i<x.alts.length
  ·rw[aH hh,List.all_cons,dcT (by omega:(i:Int)<(x.alts.length:Int)),cdT,aQ hh,bnS,al,f119_eq,bnS]
   cases lk t x.obj x.alts[i]
   ·exact ha _ oM
   ·dsimp only
    rw[Bool.not_true,cdF,w64 oM oM,f72_l2_eq t x k a b ha hl n (i+1) _ (by push_cast;rfl) oM oM,Bool.true_and]
  ·rw[dcF (by omega:¬(i:Int)<(x.alts.length:Int)),cdF,List.drop_eq_nil_of_le oM]
   rfl
def oX(t:ao)(x:cY):Bool:= !((((decide ((x.alts.length:Int)<1)||decide ((x.alts.length:Int)>16))||decide (x.obj<0))||decide (x.obj≥(t.objs.length:Int)))||((!decide (x.else_= -1))&&(!(at1 t x.else_))))&&x.alts.all (lk t x.obj)
theorem f72_l1_eq(t:ao)(r:Option Bool)(hl:t.selects.length<9223372036854775808):∀(n i:Nat)(z:Int),z=(i:Int)→i≤t.selects.length→t.selects.length<n+i→
  f72_l1 ⟨t⟩ (λ_=>r) n z=bif (t.selects.drop i).all (oX t) then r else some false
 |0,i,z,_,_,h=>oM
 |n+1,i,z,hz,hi,h=>by
  subst hz
  rw[f72_l1]
  dsimp only
  by_cases hh:i<t.selects.length
  ·rw[aH hh,List.all_cons,dcT (by omega:(i:Int)<(t.selects.length:Int)),cdT,aQ hh,bnS,f112_eq]
   generalize t.selects[i]=x
   unfold oX
   cases hc:(((decide ((x.alts.length:Int)<1)||decide ((x.alts.length:Int)>16))||decide (x.obj<0))||decide (x.obj≥(t.objs.length:Int)))||((!decide (x.else_= -1))&&(!(at1 t x.else_)))
   ·have he:(x.alts.length:Int)≤16:=by
     simp only[Bool.or_eq_false_iff,decide_eq_false_iff_not] at hc
     omega
    simp only[al]
    rw[cdF,f72_l2_eq t x _ (some false) _ (λi h=>by rw[dcT (show i≥0 from h)];rfl) oM _ 0 0 rfl (Nat.zero_le _) oM,List.drop_zero,w64 oM oM,f72_l1_eq t r hl n (i+1) _ (by push_cast;rfl) oM oM]
    cases x.alts.all (lk t x.obj)<;>rfl
   ·rfl
  ·rw[dcF (by omega:¬(i:Int)<(t.selects.length:Int)),cdF,List.drop_eq_nil_of_le oM]
   rfl
def oW(t:ao):Bool:= !(decide ((t.selects.length:Int)>1024))&&t.selects.all (oX t)
theorem f72_eq(t:ao):f72 ⟨t⟩=some (oW t):=by
 unfold f72 oW
 dsimp only
 cases h1:decide ((t.selects.length:Int)>1024)
 ·have hol:(t.selects.length:Int)≤1024:=by
   simp only[decide_eq_false_iff_not] at h1
   omega
  rw[cdF,al,f72_l1_eq t _ oM _ 0 0 rfl (Nat.zero_le _) oM,List.drop_zero]
  cases t.selects.all (oX t)<;>rfl
 ·rfl
def l5(h g:an):Bool:= !((!(decide (g.from_≥h.from_)&&decide (g.to≤h.to)))&&decide ((if h.from_>g.from_ then h.from_ else g.from_)<(if h.to<g.to then h.to else g.to)))
theorem mV{α:Type}(L:List α)(i:Nat):cm L 0 (i:Int)=L.take i:=by simp[cm]
theorem f73_l2_eq(t:ao)(j:Nat)(h0:an)(r:Option Bool)(hj:j≤t.handlers.length)(hl:t.handlers.length<9223372036854775808):∀(n i:Nat)(z:Int),z=(i:Int)→i≤j→j<n+i→
  f73_l2 ⟨t⟩ (j:Int) (λ_ _ _ _=>r) h0 n z=bif ((t.handlers.take j).drop i).all (l5 h0) then r else some false
 |0,i,z,_,_,h=>oM
 |n+1,i,z,hz,hi,h=>by
  subst hz
  have hL:(t.handlers.take j).length=j:=by rw[List.length_take];omega
  rw[f73_l2]
  dsimp only
  rw[mV]
  by_cases hh:i<(t.handlers.take j).length
  ·rw[aH hh,List.all_cons,dcT (by omega:(i:Int)<((t.handlers.take j).length:Int)),cdT,aQ hh,bnS,w64 oM oM,f73_l2_eq t j h0 r hj hl n (i+1) _ (by push_cast;rfl) oM oM]
   generalize(t.handlers.take j)[i]=g
   unfold l5
   cases (!(decide (g.from_≥h0.from_)&&decide (g.to≤h0.to)))&&decide ((if h0.from_>g.from_ then h0.from_ else g.from_)<(if h0.to<g.to then h0.to else g.to))<;>rfl
  ·rw[dcF (by omega:¬(i:Int)<((t.handlers.take j).length:Int)),cdF,List.drop_eq_nil_of_le oM]
   rfl
def mi(t:ao)(x:an):Bool:=((((decide (x.from_<0))||(decide (x.from_≥x.to)))||(decide (x.to>(t.insns.length:Int))))||(!(at1 t x.at_)))||(f120 x x.at_)
def fX(t:ao):List an→List an→Bool
 |_,[]=>true
 |P,x::r=>(!(mi t x))&&P.all (l5 x)&&fX t (P++ [x]) r
theorem f73_l1_eq(t:ao)(r:Option Bool)(hl:t.handlers.length<9223372036854775808):∀(n i:Nat)(z:Int),z=(i:Int)→i≤t.handlers.length→t.handlers.length<n+i→
  f73_l1 ⟨t⟩ (λ_=>r) n z=bif fX t (t.handlers.take i) (t.handlers.drop i) then r else some false
 |0,i,z,_,_,h=>oM
 |n+1,i,z,hz,hi,h=>by
  subst hz
  rw[f73_l1]
  dsimp only
  by_cases hh:i<t.handlers.length
  ·have hL:(t.handlers.take i).length=i:=by rw[List.length_take];omega
   rw[aH hh,fX,←List.take_succ_eq_append_getElem hh,dcT (by omega:(i:Int)<(t.handlers.length:Int)),cdT,al,aQ hh,bnS,f112_eq,bH _ (by simp[dp];omega),mV,w64 oM oM,f73_l2_eq t i _ _ oM hl _ 0 0 rfl (Nat.zero_le _) oM,f73_l1_eq t r hl n (i+1) _ (by push_cast;rfl) oM oM,List.drop_zero]
   generalize t.handlers[i]=x
   show(bif mi t x then _ else _)=_
   cases mi t x<;>cases (t.handlers.take i).all (l5 x)<;>rfl
  ·rw[dcF (by omega:¬(i:Int)<(t.handlers.length:Int)),cdF,List.drop_eq_nil_of_le oM]
   rfl
def nv(t:ao):Bool:= !(decide ((t.handlers.length:Int)>4096))&&fX t [] t.handlers
theorem f73_eq(t:ao):f73 ⟨t⟩=some (nv t):=by
 unfold f73 nv
 dsimp only
 cases h1:decide ((t.handlers.length:Int)>4096)
 ·have hol:(t.handlers.length:Int)≤4096:=by
   simp only[decide_eq_false_iff_not] at h1
   omega
  rw[cdF,al,f73_l1_eq t _ oM _ 0 0 rfl (Nat.zero_le _) oM,List.drop_zero,List.take_zero]
  cases fX t [] t.handlers<;>rfl
 ·rfl
def lpOk(t:ao)(x:Loop):Bool:=(!((decide (x.head<0)||decide (x.head>x.back))||(!(at1 t x.back))))&&(match idx t.insns x.back with|some y=>f121 y x.head|none=>false)&& !(decide (x.bound<0)||decide (x.bound>2147483647))
def nq(t:ao):List (Int×Bool)→List Loop→Bool
 |_,[]=>true
 |m,x::r=>(!(inM m x.back))&&lpOk t x&&nq t (cq m x.back true) r
theorem f74_l1_eq(t:ao)(r:Option Bool)(hl:t.loops.length<9223372036854775808):∀(n i:Nat)(z:Int)(m:List (Int×Bool)),z=(i:Int)→i≤t.loops.length→t.loops.length<n+i→
  f74_l1 ⟨t⟩ (λ_=>r) n z m=bif nq t m (t.loops.drop i) then r else some false
 |0,i,z,m,_,_,h=>oM
 |n+1,i,z,m,hz,hi,h=>by
  subst hz
  rw[f74_l1]
  dsimp only
  by_cases hh:i<t.loops.length
  ·rw[aH hh,nq,dcT (by omega:(i:Int)<(t.loops.length:Int)),cdT,aQ hh,bnS,f112_eq,w64 oM oM,f74_l1_eq t r hl n (i+1) _ _ (by push_cast;rfl) oM oM]
   generalize t.loops[i]=x
   unfold lpOk
   show Option.bind (bif (_||inM m x.back) then _ else _) _=_
   cases h1:(decide (x.head<0)||decide (x.head>x.back))||(!(at1 t x.back))
   ·cases inM m x.back
    ·have h2:at1 t x.back=true:=by
      cases h:at1 t x.back
      ·rw[h] at h1;simp at h1
      ·rfl
     obtain⟨y,hy,_⟩:=bN (ip.1 h2)
     rw[hy]
     simp only[bnS,Bool.or_self,cdF,Bool.not_false,Bool.true_and,Bool.or_assoc]
     cases f121 y x.head<;>cases (decide (x.bound<0)||decide (x.bound>2147483647))<;>rfl
    ·rfl
   ·cases inM m x.back<;>rfl
  ·rw[dcF (by omega:¬(i:Int)<(t.loops.length:Int)),cdF,List.drop_eq_nil_of_le oM]
   rfl
def sF(t:ao):Bool:= !(decide ((t.loops.length:Int)>4096))&&nq t [] t.loops
theorem f74_eq(t:ao):f74 ⟨t⟩=some (sF t):=by
 unfold f74 sF
 dsimp only
 cases h1:decide ((t.loops.length:Int)>4096)
 ·have hol:(t.loops.length:Int)≤4096:=by
   simp only[decide_eq_false_iff_not] at h1
   omega
  rw[cdF,al,f74_l1_eq t _ oM _ 0 0 [] rfl (Nat.zero_le _) oM,List.drop_zero]
  cases nq t [] t.loops<;>rfl
 ·rfl
def chk(t:ao)(a:Int):Bool:=match idx t.insns a with
 |some x=>decide (x.op=27)||decide (x.op=28)
 |none=>false
theorem f122_eq(t:ao)(a:Int):f122 ⟨t⟩ a=some (chk t a):=by
 unfold f122 chk
 rw[f112_eq]
 dsimp only
 cases h:at1 t a
 ·rw[fh (λhh=>by rw[ip.2 hh] at h;cases h)];rfl
 ·obtain⟨y,hy,_⟩:=bN (ip.1 h)
  rw[hy]
  dsimp only[bnS,cdT]
  cases decide (y.op=27)<;>rfl
def oP(t:ao):Int→List eZ→Bool
 |_,[]=>true
 |last,x::r=>((decide (last<x.at_)&&chk t x.at_)&& !(decide (x.kind<1)||decide (x.kind>5)))&&oP t x.at_ r
theorem f75_l1_eq(t:ao)(r:Option Bool)(hl:t.checks.length<9223372036854775808):∀(n i:Nat)(z last:Int),z=(i:Int)→i≤t.checks.length→t.checks.length<n+i→
  f75_l1 ⟨t⟩ (λ_=>r) n last z=bif oP t last (t.checks.drop i) then r else some false
 |0,i,z,last,_,_,h=>oM
 |n+1,i,z,last,hz,hi,h=>by
  subst hz
  rw[f75_l1]
  dsimp only
  by_cases hh:i<t.checks.length
  ·rw[aH hh,oP,dcT (by omega:(i:Int)<(t.checks.length:Int)),cdT,aQ hh,bnS,f122_eq,w64 oM oM,f75_l1_eq t r hl n (i+1) _ _ (by push_cast;rfl) oM oM]
   generalize t.checks[i]=x
   by_cases h1:last<x.at_
   ·rw[dcT h1,dcF (show¬x.at_≤last by omega)]
    cases chk t x.at_<;>cases decide (x.kind<1)<;>cases decide (x.kind>5)<;>rfl
   ·rw[dcF h1,dcT (show x.at_≤last by omega)];rfl
  ·rw[dcF (by omega:¬(i:Int)<(t.checks.length:Int)),cdF,List.drop_eq_nil_of_le oM]
   rfl
theorem f75_eq(t:ao)(hl:t.checks.length<9223372036854775808):f75 ⟨t⟩=some (oP t (-1) t.checks):=by
 unfold f75
 dsimp only
 rw[al,f75_l1_eq t _ hl _ 0 0 (-1) rfl (Nat.zero_le _) oM,List.drop_zero]
 cases oP t (-1) t.checks<;>rfl
def bL(os:List Obj)(ent:Int)(e:bv):Bool×Int×Int×Int×Int×Int:=
 bif decide (e.kind=1) then(true,0,0,e.n,0,0) else
 bif decide (e.kind=2) then(bif spot os e.o e.off 1&&(match idx os e.o with|some y=> !y.ptr|none=>false) then(true,0,0,0,e.o,e.off) else(false,0,0,0,0,0)) else
 bif decide (e.kind=14) then(decide (e.n≥0)&&decide (e.n<ent),0,0,e.n,0,0) else
 bif decide (e.kind=4) then(true,1,18,0,0,0) else
 bif decide (e.kind=5) then(true,2,(if(if 15<e.op then 15 else e.op)>7 then(if 15<e.op then 15 else e.op) else 7),0,0,0) else
 bif decide (e.kind=6)||decide (e.kind=7) then(true,2,0,0,0,0) else(false,0,0,0,0,0)
def eS(os:List Obj)(ent:Int)(e:bv):Bool:=
 ((((((((!(bL os ent e).1)||(!decide ((List.length e.l:Int)=(bL os ent e).2.1)))||(!decide (e.op=(bL os ent e).2.2.1)))||(!decide (e.n=(bL os ent e).2.2.2.1)))||(!decide (e.o=(bL os ent e).2.2.2.2.1)))||(!decide (e.off=(bL os ent e).2.2.2.2.2)))||(!decide (e.len=0)))||(!decide (e.lo=0)))||(!decide (e.hi=0))
def exL(rec:Int→bv→Bool×Int):List bv→Int→Bool×Int
 |[],l=>(true,l)
 |e::r,l=>bif (rec l e).1 then exL rec r (rec l e).2 else(false,(rec l e).2)
def exF(os:List Obj)(ent:Int):Nat→Int→Int→bv→Bool×Int
 |0,_,left,_=>(false,left)
 |n+1,deep,left,e=>
  bif (decide (IntKind.i64.wrap (left - 1)<0)||decide (deep>64))||eS os ent e then(false,IntKind.i64.wrap (left - 1))
  else exL (exF os ent n (deep+1)) e.l (IntKind.i64.wrap (left - 1))
theorem oy(os:List Obj)(ent:Int)(e:bv):(bL os ent e).2.1≤2:=by
 unfold bL
 cases decide (e.kind=1)<;>cases decide (e.kind=2)<;>cases decide (e.kind=14)<;>cases decide (e.kind=4)<;>cases decide (e.kind=5)<;>cases (decide (e.kind=6)||decide (e.kind=7))<;>simp<;>cases (spot os e.o e.off 1&&(match idx os e.o with|some y=> !y.ptr|none=>false))<;>simp
abbrev Rt:Type:=Bool×(List ak)×(List an)×(List Loop)×(List cY)×(List (List Int))×(List Obj)×(List eO)×Int×(List dZ)×(List dH)×(List eZ)×Int×Int
abbrev Re:Type:=(List ak)→(List an)→(List Loop)→(List cY)→(List (List Int))→(List Obj)→(List eO)→Int→(List dZ)→(List dH)→(List eZ)→Int→Int→bv→Int→Option Rt
section
variable(v0:List ak)(v1:List an)(v2:List Loop)(v3:List cY)(v4:List (List Int))(v5:List Obj)(v6:List eO)(v7:Int)(v8:List dZ)(v9:List dH)(v10:List eZ)(ent:Int)
def lZ(z:Bool×Int):Option Rt:=some (z.1,v0,v1,v2,v3,v4,v5,v6,v7,v8,v9,v10,ent,z.2)
theorem f116s_l1_eq(rec:Re)(g:Int→bv→Bool×Int)(e:bv)(deep:Int)
  (hrec:∀l x,rec v0 v1 v2 v3 v4 v5 v6 v7 v8 v9 v10 ent l x (IntKind.i64.wrap (deep+1))=lZ v0 v1 v2 v3 v4 v5 v6 v7 v8 v9 v10 ent (g l x))
  (ka:Int→(List ak)→(List an)→(List Loop)→(List cY)→(List (List Int))→(List Obj)→(List eO)→Int→(List dZ)→(List dH)→(List eZ)→Int→Int→Option Rt)
  (kb:(List ak)→(List an)→(List Loop)→(List cY)→(List (List Int))→(List Obj)→(List eO)→Int→(List dZ)→(List dH)→(List eZ)→Int→Int→Option Rt)
  (ha:∀(i:Int) l,0≤i→ka i v0 v1 v2 v3 v4 v5 v6 v7 v8 v9 v10 ent l=lZ v0 v1 v2 v3 v4 v5 v6 v7 v8 v9 v10 ent (false,l))
  (hb:∀l,kb v0 v1 v2 v3 v4 v5 v6 v7 v8 v9 v10 ent l=lZ v0 v1 v2 v3 v4 v5 v6 v7 v8 v9 v10 ent (true,l))
  (hl:e.l.length<9223372036854775808):∀(n i:Nat)(z l:Int),z=(i:Int)→i≤e.l.length→e.l.length<n+i→
  f116s_l1 rec e deep ka kb n z v0 v1 v2 v3 v4 v5 v6 v7 v8 v9 v10 ent l=lZ v0 v1 v2 v3 v4 v5 v6 v7 v8 v9 v10 ent (exL g (e.l.drop i) l)
 |0,i,z,l,_,_,h=>oM
 |n+1,i,z,l,hz,hi,h=>by
  subst hz
  rw[f116s_l1]
  by_cases hh:i<e.l.length
  ·rw[aH hh,exL,dcT (by omega:(i:Int)<(e.l.length:Int)),cdT,aQ hh,bnS,al,hrec]
   unfold lZ
   dsimp only[bnS]
   cases (g l e.l[i]).1
   ·exact ha _ _ oM
   ·rw[Bool.not_true,cdF,w64 oM oM]
    exact f116s_l1_eq rec g e deep hrec ka kb ha hb hl n (i+1) _ _ (by push_cast;rfl) oM oM
  ·rw[dcF (by omega:¬(i:Int)<(e.l.length:Int)),cdF,List.drop_eq_nil_of_le oM]
   exact hb _
theorem f116s_eq(rec:Re)(g:Int→bv→Bool×Int)(e:bv)(deep left:Int)
  (hrec:deep≤64→∀l x,rec v0 v1 v2 v3 v4 v5 v6 v7 v8 v9 v10 ent l x (IntKind.i64.wrap (deep+1))=lZ v0 v1 v2 v3 v4 v5 v6 v7 v8 v9 v10 ent (g l x)):∀z,f116s rec v0 v1 v2 v3 v4 v5 v6 v7 v8 v9 v10 ent left e deep=z→
  z=lZ v0 v1 v2 v3 v4 v5 v6 v7 v8 v9 v10 ent (bif (decide (IntKind.i64.wrap (left - 1)<0)||decide (deep>64))||eS v5 ent e then(false,IntKind.i64.wrap (left - 1)) else exL g e.l (IntKind.i64.wrap (left - 1))):=by
 intro z h
 unfold f116s at h
 obtain⟨K,hK,h⟩:=ah h
 have h':K (bL v5 ent e).1 (bL v5 ent e).2.1 (bv.mk e.kind (bL v5 ent e).2.2.1 (bL v5 ent e).2.2.2.1 (bL v5 ent e).2.2.2.2.1 (bL v5 ent e).2.2.2.2.2 0 0 0 []) (bL v5 ent e).2.2.1 (bL v5 ent e).2.2.2.1 (bL v5 ent e).2.2.2.2.1 (bL v5 ent e).2.2.2.2.2=z:=by
  rw[←h,al]
  unfold bL
  cases decide (e.kind=1)
  ·cases decide (e.kind=2)
   ·cases decide (e.kind=14)
    ·cases decide (e.kind=4)
     ·cases decide (e.kind=5)
      ·cases decide (e.kind=6)<;>cases decide (e.kind=7)<;>rfl
      ·rfl
     ·rfl
    ·cases decide (e.n≥0)<;>rfl
   ·rw[f111_eq]
    dsimp only[bnS,cdT,cdF]
    cases hs:spot v5 e.o e.off 1
    ·rfl
    ·obtain⟨y,hy,_⟩:=lG hs
     rw[hy]
     dsimp only[bnS,cdT,cdF]
     cases y.ptr<;>rfl
  ·rfl
 clear h
 rw[hK] at h'
 dsimp only at h'
 have hc:=oy v5 ent e
 have e1:(((((((((((decide (IntKind.i64.wrap (left - 1)<0))||(decide (deep>64)))||(!(bL v5 ent e).1))||(!decide ((List.length e.l:Int)=(bL v5 ent e).2.1)))||(!decide (e.op=(bL v5 ent e).2.2.1)))||(!decide (e.n=(bL v5 ent e).2.2.2.1)))||(!decide (e.o=(bL v5 ent e).2.2.2.2.1)))||(!decide (e.off=(bL v5 ent e).2.2.2.2.2)))||(!decide (e.len=0)))||(!decide (e.lo=0)))||(!decide (e.hi=0)))=((decide (IntKind.i64.wrap (left - 1)<0)||decide (deep>64))||eS v5 ent e):=by
  unfold eS
  simp only[Bool.or_assoc]
 rw[e1] at h'
 cases hbad:(decide (IntKind.i64.wrap (left - 1)<0)||decide (deep>64))||eS v5 ent e
 ·rw[hbad,cdF] at h'
  have hd:deep≤64:=by
   simp only[Bool.or_eq_false_iff,decide_eq_false_iff_not] at hbad
   omega
  have hlen:e.l.length≤2:=by
   simp only[Bool.or_eq_false_iff] at hbad
   have:=hbad.2
   unfold eS at this
   simp only[Bool.or_eq_false_iff,Bool.not_eq_false',decide_eq_true_eq] at this
   have:=this.1.1.1.1.1.1.1.2
   omega
  simp only[al] at h'
  rw[f116s_l1_eq v0 v1 v2 v3 v4 v5 v6 v7 v8 v9 v10 ent rec g e deep (hrec hd) _ _ (λi l h0=>by rw[dcT (show i≥0 from h0)];rfl) (λl=>rfl) oM _ 0 0 _ rfl (Nat.zero_le _) oM,List.drop_zero] at h'
  rw[←h',cdF]
 ·rw[hbad,cdT] at h'
  rw[←h',cdT]
  rfl
theorem f116_eq:∀(n:Nat)(deep left:Int)(e:bv),1≤deep→deep≤65→66<n+deep→f116 n v0 v1 v2 v3 v4 v5 v6 v7 v8 v9 v10 ent left e deep=lZ v0 v1 v2 v3 v4 v5 v6 v7 v8 v9 v10 ent (exF v5 ent n deep left e)
 |0,deep,left,e,h0,h1,h2=>oM
 |n+1,deep,left,e,h0,h1,h2=>by
  rw[f116,exF]
  exact f116s_eq v0 v1 v2 v3 v4 v5 v6 v7 v8 v9 v10 ent (f116 n) (exF v5 ent n (deep+1)) e deep left (λhd l x=>by
   rw[w64 oM oM]
   exact f116_eq n (deep+1) l x oM oM oM) _ rfl
end
def po(t:ao)(ent:Int)(e:bv):Bool:=(exF t.objs ent 66 1 256 e).1
theorem f71_l2_eq(t:ao)(x:dH)(r:Option Bool)(hl:x.barriers.length<9223372036854775808):∀(n i:Nat)(z:Int),z=(i:Int)→i≤x.barriers.length→x.barriers.length<n+i→
  f71_l2 ⟨t⟩ (λ_ _=>r) x n z=bif (x.barriers.drop i).all (po t x.barriers.length) then r else some false
 |0,i,z,_,_,h=>oM
 |n+1,i,z,hz,hi,h=>by
  subst hz
  rw[f71_l2]
  dsimp only
  by_cases hh:i<x.barriers.length
  ·rw[aH hh,List.all_cons,dcT (by omega:(i:Int)<(x.barriers.length:Int)),cdT,aQ hh,bnS,f116_eq _ _ _ _ _ _ _ _ _ _ _ _ 66 1 256 _ oM oM oM,w64 oM oM,f71_l2_eq t x r hl n (i+1) _ (by push_cast;rfl) oM oM]
   unfold lZ po
   dsimp only[bnS]
   cases (exF t.objs x.barriers.length 66 1 256 x.barriers[i]).1<;>rfl
  ·rw[dcF (by omega:¬(i:Int)<(x.barriers.length:Int)),cdF,List.drop_eq_nil_of_le oM]
   rfl
def lY(t:ao)(x:dH):Bool:= !((decide (x.ceiling<0)||decide (x.ceiling>31))||decide ((x.barriers.length:Int)>8))&&x.barriers.all (po t x.barriers.length)
theorem f71_l1_eq(t:ao)(r:Option Bool)(hl:t.prots.length<9223372036854775808):∀(n i:Nat)(z:Int),z=(i:Int)→i≤t.prots.length→t.prots.length<n+i→
  f71_l1 ⟨t⟩ (λ_=>r) n z=bif (t.prots.drop i).all (lY t) then r else some false
 |0,i,z,_,_,h=>oM
 |n+1,i,z,hz,hi,h=>by
  subst hz
  rw[f71_l1]
  dsimp only
  by_cases hh:i<t.prots.length
  ·rw[aH hh,List.all_cons,dcT (by omega:(i:Int)<(t.prots.length:Int)),cdT,al,aQ hh,bnS]
   generalize t.prots[i]=x
   unfold lY
   cases hc:(decide (x.ceiling<0)||decide (x.ceiling>31))||decide ((x.barriers.length:Int)>8)
   ·have he:(x.barriers.length:Int)≤8:=by
     simp only[Bool.or_eq_false_iff,decide_eq_false_iff_not] at hc
     omega
    rw[cdF,f71_l2_eq t x _ oM _ 0 0 rfl (Nat.zero_le _) oM,w64 oM oM,f71_l1_eq t r hl n (i+1) _ (by push_cast;rfl) oM oM,List.drop_zero]
    cases x.barriers.all (po t x.barriers.length)<;>rfl
   ·rfl
  ·rw[dcF (by omega:¬(i:Int)<(t.prots.length:Int)),cdF,List.drop_eq_nil_of_le oM]
   rfl
def lX(t:ao):Bool:=t.prots.all (lY t)&&decide ((t.prots.length:Int)≤32)
theorem f71_eq(t:ao)(hl:t.prots.length<9223372036854775808):f71 ⟨t⟩=some (lX t):=by
 unfold f71 lX
 dsimp only
 rw[al,f71_l1_eq t _ hl _ 0 0 rfl (Nat.zero_le _) oM,List.drop_zero]
 cases t.prots.all (lY t)<;>rfl
def prs(o:Int):Option (List ByteArray):=(f156 o).bind λr=>f176 r.1.fields
def ch(s:ByteArray):Int×Int:=((eH s 0).getD 0,(eH s 1).getD 0)
def qb(o:Int):List (Int×Int):=((prs o).getD []).map ch
theorem uc:∀k,k<57→(match prs ((k:Nat)+1:Int) with|some l=>Nat.blt l.length 100&&l.all λs=>(eH s 0).isSome&&(eH s 1).isSome|none=>false)=true:=by decide+kernel
theorem f156_ok:∀k,k<57→(match f156 ((k:Nat)+1:Int) with|some r=>r.2|none=>false)=true:=by decide+kernel
theorem f156_eq{o:Int}(h1:1≤o)(h2:o≤57):∃r,f156 o=some (r,true):=by
 obtain⟨k,rfl⟩:∃k:Nat,o=(k:Int)+1:=⟨(o - 1).toNat,oM⟩
 have:=f156_ok k oM
 cases h:f156 ((k:Int)+1) with
 |none=>rw[h] at this;cases this
 |some r=>rw[h] at this;exact⟨r.1,by dsimp only at this;rw[←this]⟩
theorem ud{o:Int}(h1:1≤o)(h2:o≤57):∃l,prs o=some l∧l.length<100∧∀s∈l,(∃c,eH s 0=some c)∧∃c,eH s 1=some c:=by
 obtain⟨k,rfl⟩:∃k:Nat,o=(k:Int)+1:=⟨(o - 1).toNat,oM⟩
 have:=uc k oM
 cases h:prs ((k:Int)+1) with
 |none=>rw[h] at this;cases this
 |some l=>
  rw[h] at this
  rw[Bool.and_eq_true] at this
  refine⟨l,rfl,by simpa using this.1,λs hs=>?_⟩
  have:=List.all_eq_true.1 this.2 s hs
  rw[Bool.and_eq_true] at this
  exact⟨Option.isSome_iff_exists.1 this.1,Option.isSome_iff_exists.1 this.2⟩
def rng(w v:Int):Bool:= !(decide (v<(f179 w).1)||decide (v>(f179 w).2))
def fl:List (Int×Int)→Int→Int→Int→Int→Int→Int→Bool
 |[],d,a,b,n,m,to=>(decide (d=0))&&((decide (a=0))&&((decide (b=0))&&((decide (n=0))&&((decide (m=0))&&((decide (to=0))&&true)))))
 |(c,w)::r,d,a,b,n,m,to=>
  bif decide (c=68) then rng w d&&fl r 0 a b n m to else
  bif decide (c=65) then rng w a&&fl r d 0 b n m to else
  bif decide (c=66) then rng w b&&fl r d a 0 n m to else
  bif decide (c=78) then rng w n&&fl r d a b 0 m to else
  bif decide (c=77) then rng w m&&fl r d a b n 0 to else rng w to&&fl r d a b n m 0
theorem f124_l1_eq(k1 k2 k3 k4 k5 k6:Int→Int→Int→Int→Int→Int→ByteArray→ByteArray→Int→Int→Int→Int→Option Bool)
  (h1:∀a b c d e f g h i j k l,k1 a b c d e f g h i j k l=some false)(h2:∀a b c d e f g h i j k l,k2 a b c d e f g h i j k l=some false)(h3:∀a b c d e f g h i j k l,k3 a b c d e f g h i j k l=some false)
  (h4:∀a b c d e f g h i j k l,k4 a b c d e f g h i j k l=some false)(h5:∀a b c d e f g h i j k l,k5 a b c d e f g h i j k l=some false)(h6:∀a b c d e f g h i j k l,k6 a b c d e f g h i j k l=some false)
  (k7:Int→Int→Int→Int→Int→Int→ByteArray→ByteArray→Option Bool)(h7:∀d a b n m to x y,k7 d a b n m to x y=some (fl [] d a b n m to))(r:gg×Bool)(L:List ByteArray)(hL:∀s∈L,(∃c,eH s 0=some c)∧∃c,eH s 1=some c)(hl:L.length<9223372036854775808):
  ∀(n i:Nat)(z d a b vn m to:Int),z=(i:Int)→i≤L.length→L.length<n+i→f124_l1 k1 k2 k3 k4 k5 k6 k7 r L n z d a b vn m to=some (fl ((L.drop i).map ch) d a b vn m to)
 |0,i,z,_,_,_,_,_,_,_,_,h=>oM
 |n+1,i,z,d,a,b,vn,m,to,hz,hi,h=>by
  subst hz
  rw[f124_l1]
  by_cases hh:i<L.length
  ·obtain⟨⟨c,hc⟩,w,hw⟩:=hL _ (List.getElem_mem hh)
   have ih:=λd a b vn m to=>f124_l1_eq k1 k2 k3 k4 k5 k6 h1 h2 h3 h4 h5 h6 k7 h7 r L hL hl n (i+1) _ d a b vn m to (by push_cast;rfl) oM oM
   have he:ch L[i]=(c,w):=by unfold ch;rw[hc,hw];rfl
   rw[aH hh,List.map_cons,he,fl,dcT (by omega:(i:Int)<(L.length:Int)),cdT,aQ hh,bnS,hc,bnS,w64 oM oM]
   simp only[al,hw,bnS,h1,h2,h3,h4,h5,h6,ih]
   unfold rng
   cases decide (c=68)
   ·cases decide (c=65)
    ·cases decide (c=66)
     ·cases decide (c=78)
      ·cases decide (c=77)
       ·cases (decide (to<(f179 w).1)||decide (to>(f179 w).2))<;>rfl
       ·cases (decide (m<(f179 w).1)||decide (m>(f179 w).2))<;>rfl
      ·cases (decide (vn<(f179 w).1)||decide (vn>(f179 w).2))<;>rfl
     ·cases (decide (b<(f179 w).1)||decide (b>(f179 w).2))<;>rfl
    ·cases (decide (a<(f179 w).1)||decide (a>(f179 w).2))<;>rfl
   ·cases (decide (d<(f179 w).1)||decide (d>(f179 w).2))<;>rfl
  ·rw[dcF (by omega:¬(i:Int)<(L.length:Int)),cdF,List.drop_eq_nil_of_le oM,h7]
   rfl
def eT(x:ak):Bool:= !((!(decide (1≤x.op)&&decide (x.op≤57)))||(decide (x.op=27)&&decide (x.n>x.m)))&&(!((decide (x.op=37)&&decide ((IntKind.u8.wrap x.n)=6))&&(!decide (x.m=0)))&&fl (qb x.op) x.d x.a x.b x.n x.m x.to)
theorem f124_eq(x:ak)(ho:0≤x.op∧x.op≤255):f124 x=some (eT x):=by
 unfold f124 eT
 by_cases h:1≤x.op∧x.op≤57
 ·obtain⟨r,hr⟩:=f156_eq h.1 h.2
  obtain⟨l,hl,hlen,hg⟩:=ud h.1 h.2
  have hf:f176 r.fields=some l:=by
   unfold prs at hl
   rw[hr,bnS] at hl
   exact hl
  rw[hr,bnS,dcT h.1,dcT h.2]
  dsimp only
  rw[Bool.not_true,Bool.false_or,Bool.and_true,Bool.not_true,Bool.false_or]
  cases decide (x.op=27)&&decide (x.n>x.m)
  ·rw[cdF]
   cases (decide (x.op=37)&&decide ((IntKind.u8.wrap x.n)=6))&&(!decide (x.m=0))
   ·rw[cdF]
    simp only[al]
    rw[bnS,hf,bnS]
    refine(f124_l1_eq _ _ _ _ _ _ (λ_ _ _ _ _ _ _ _ _ _ _ _=>rfl) (λ_ _ _ _ _ _ _ _ _ _ _ _=>rfl) (λ_ _ _ _ _ _ _ _ _ _ _ _=>rfl) (λ_ _ _ _ _ _ _ _ _ _ _ _=>rfl) (λ_ _ _ _ _ _ _ _ _ _ _ _=>rfl) (λ_ _ _ _ _ _ _ _ _ _ _ _=>rfl) _ (by intro d a b n m to _ _;rfl) _ l hg oM _ 0 0 _ _ _ _ _ _ rfl (Nat.zero_le _) oM).trans ?_
    rw[List.drop_zero]
    unfold qb
    rw[hl]
    rfl
   ·rfl
  ·rfl
 ·have e:f156 x.op=some ((gg.mk ByteArray.empty ByteArray.empty),false):=by
   unfold f156
   have:(decide (x.op<1)||decide ((IntKind.i64.wrap x.op)>57))=true:=by
    rw[w64 oM oM,Bool.or_eq_true]
    simp only[decide_eq_true_eq]
    omega
   rw[this];rfl
  have e2:(decide (1≤x.op)&&decide (x.op≤57))=false:=by
   rw[Bool.and_eq_false_iff]
   simp only[decide_eq_false_iff_not]
   omega
  rw[e,e2];rfl
def qe(t:ao)(task n:Int):Int×Bool:=match idx t.tasks task with
 |some x=>(match idx x.entries n with
  |some e=>((IntKind.i64.wrap ((IntKind.i64.wrap ((List.length e.ins:Int)+(List.length e.outs:Int)))+1)),true)
  |none=>(0,false))
 |none=>(0,false)
theorem f126_eq(t:ao)(a n:Int):f126 ⟨t⟩ a n=some (qe t a n):=by
 unfold f126 qe
 dsimp only
 by_cases h:0≤a∧a<t.tasks.length
 ·obtain⟨y,hy,_⟩:=bN h
  rw[hy,dcF (show¬a<0 by omega),dcF (show¬a≥(t.tasks.length:Int) by omega)]
  dsimp only[bnS]
  by_cases h2:0≤n∧n<y.entries.length
  ·obtain⟨e,he,_⟩:=bN h2
   rw[he,dcF (show¬n<0 by omega),dcF (show¬n≥(y.entries.length:Int) by omega)]
   rfl
  ·rw[fh h2]
   by_cases h3:n<0
   ·rw[dcT h3];rfl
   ·rw[dcT (show n≥(y.entries.length:Int) by omega),dcF h3];rfl
 ·rw[fh h]
  have:(decide (a<0)||decide (a≥(t.tasks.length:Int)))=true:=by
   rw[Bool.or_eq_true]
   simp only[decide_eq_true_eq]
   omega
  rw[this];rfl
def sK(t:ao)(p n:Int):Bool:=match idx t.prots p with
 |some x=>decide (0≤n)&&decide (n<(x.barriers.length:Int))
 |none=>false
theorem f127_eq(t:ao)(p n:Int):f127 ⟨t⟩ p n=some (sK t p n):=by
 unfold f127 sK
 dsimp only
 by_cases h:0≤p∧p<t.prots.length
 ·obtain⟨y,hy,_⟩:=bN h
  rw[hy,dcT (show p≥0 by omega),dcT h.2]
  by_cases h3:0≤n
  ·rw[dcT (show n≥0 from h3)];rfl
  ·rw[dcF (show¬n≥0 from h3)];rfl
 ·rw[fh h]
  have:(decide (p≥0)&&decide (p<(t.prots.length:Int)))=false:=by
   rw[Bool.and_eq_false_iff]
   simp only[decide_eq_false_iff_not]
   omega
  rw[this];rfl
def sH(t:ao)(x:ak):Bool:=decide ((IntKind.i64.wrap (x.to+x.m))≤(t.insns.length:Int))&&(cm t.insns x.to (IntKind.i64.wrap (x.to+x.m))).all (λy=>decide (y.op=29))
def gz(t:ao)(x:ak):Bool:=eT x&&
 bif decide (x.op=3)||decide (x.op=4) then spot t.objs x.n x.m 1 else
 bif decide (x.op=5)||decide (x.op=6) then spot t.objs x.n x.m x.b else
 bif decide (x.op=29)||(decide (x.op=30)||decide (x.op=31)) then at1 t x.to else
 bif decide (x.op=32) then sH t x else
 bif decide (x.op=33) then decide (x.n≤t.excs) else
 bif decide (x.op=44)||(decide (x.op=45)||(decide (x.op=46)||decide (x.op=56))) then decide (x.n<(t.lists.length:Int)) else
 bif decide (x.op=50) then decide (x.n<(t.selects.length:Int)) else
 bif decide (x.op=49) then(qe t x.a x.b).2&&spot t.objs x.n 0 (qe t x.a x.b).1 else
 bif decide (x.op=52) then(qe t x.a x.b).2&&decide (x.to<(t.insns.length:Int)) else
 bif decide (x.op=53)||decide (x.op=55) then decide (x.n<(t.prots.length:Int)) else
 bif decide (x.op=54) then sK t x.n x.m else
 bif decide (x.op=43) then decide (x.m<0)||sK t x.m x.n else true
theorem ut:qb 32=[(65,114),(78,118),(77,108),(84,115)]:=by decide+kernel
theorem mg{x:ak}(h:eT x=true)(ho:x.op=32):0≤x.to∧x.to≤65535∧1≤x.m∧x.m≤65536:=by
 unfold eT at h
 rw[ho,ut] at h
 simp only[Bool.and_eq_true] at h
 have:=h.2.2
 simp only[fl,rng,f179] at this
 simp at this
 omega
theorem sP(L:List ak)(hl:L.length<9223372036854775808):f76 L (λz0=>some (f125 z0))=some (!(L.all λy=>decide (y.op=29))):=by
 rw[f76_eq L _ f125 hl λ_ _=>rfl]
 congr 1
 induction L with
 |nil=>rfl
 |cons x L ih=>rw[List.any_cons,List.all_cons,ih (by simp at hl;omega),Bool.not_and];rfl
theorem f78_eq(t:ao)(x:ak)(ho:0≤x.op∧x.op≤255)(hl:t.insns.length≤65536):f78 ⟨t⟩ x=some (gz t x):=by
 unfold f78 gz
 rw[f124_eq x ho,bnS]
 cases hm:eT x
 ·rfl
 ·simp only[al,f111_eq,f112_eq,f126_eq,f127_eq,bnS]
  rw[Bool.not_true,cdF,Bool.true_and]
  cases decide (x.op=3)
  ·cases decide (x.op=4)
   ·cases decide (x.op=5)
    ·cases decide (x.op=6)
     ·cases decide (x.op=29)
      ·cases decide (x.op=30)
       ·cases decide (x.op=31)
        ·cases h32:decide (x.op=32)
         ·cases decide (x.op=33)
          ·cases decide (x.op=44)
           ·cases decide (x.op=45)
            ·cases decide (x.op=46)
             ·cases decide (x.op=56)
              ·cases decide (x.op=50)
               ·cases decide (x.op=49)
                ·cases decide (x.op=52)
                 ·cases decide (x.op=53)
                  ·cases decide (x.op=55)
                   ·cases decide (x.op=54)
                    ·cases decide (x.op=43)
                     ·rfl
                     ·cases decide (x.m<0)<;>rfl
                    ·rfl
                   ·rfl
                  ·rfl
                 ·rfl
                ·cases (qe t x.a x.b).2<;>rfl
               ·rfl
              ·rfl
             ·rfl
            ·rfl
           ·rfl
          ·rfl
         ·obtain⟨a1,a2,a3,a4⟩:=mg hm (of_decide_eq_true h32)
          unfold sH
          dsimp only[cdT,cdF,Bool.or_false]
          by_cases h4:(IntKind.i64.wrap (x.to+x.m))≤(t.insns.length:Int)
          ·rw[dcT h4,cdT]
           rw[w64 oM oM] at h4
           rw[w64 oM oM,bH _ (by simp[dp];omega),sP _ (by simp[cm];omega),bnS,Bool.not_not]
           rfl
          ·rw[dcF h4];rfl
        ·rfl
       ·rfl
      ·rfl
     ·rfl
    ·rfl
   ·rfl
  ·rfl
structure Sz(t:ao):Prop where
 ops:∀x∈t.insns,0≤x.op∧x.op≤255
 inits:t.inits.length<9223372036854775808
 sets:∀o∈t.objs,o.set_.length<9223372036854775808
 lists:∀l∈t.lists,l.length<9223372036854775808
 prots:t.prots.length<9223372036854775808
 checks:t.checks.length<9223372036854775808
theorem f37_l1_eq(t:ao)(k:Int→Option Bool)(a b:Option Bool)(ha:∀i:Int,0≤i→k i=a)(ho:∀x∈t.insns,0≤x.op∧x.op≤255)(hl:t.insns.length≤65536):∀(n i:Nat)(z:Int),z=(i:Int)→i≤t.insns.length→t.insns.length<n+i→
  f37_l1 t k (λ_=>b) n z=bif (t.insns.drop i).all (gz t) then b else a
 |0,i,z,_,_,h=>oM
 |n+1,i,z,hz,hi,h=>by
  subst hz
  rw[f37_l1]
  by_cases hh:i<t.insns.length
  ·rw[aH hh,List.all_cons,dcT (by omega:(i:Int)<(t.insns.length:Int)),cdT,aQ hh,bnS,al,f78_eq t _ (ho _ (List.getElem_mem hh)) hl,bnS]
   cases gz t t.insns[i]
   ·exact ha _ oM
   ·dsimp only
    rw[Bool.not_true,cdF,w64 oM oM,f37_l1_eq t k a b ha ho hl n (i+1) _ (by push_cast;rfl) oM oM,Bool.true_and]
  ·rw[dcF (by omega:¬(i:Int)<(t.insns.length:Int)),cdF,List.drop_eq_nil_of_le oM]
   rfl
def ri(x:ak):Bool:=decide (x.op=29)||(decide (x.op=33)||(decide (x.op=34)||decide (x.op=57)))
def rj(t:ao):Bool:=match idx t.insns ((t.insns.length:Int) - 1) with
 |some x=>ri x
 |none=>false
def MayB(t:ao):Bool:= !(decide ((t.insns.length:Int)<1)||decide ((t.insns.length:Int)>65536))&&(rj t&&(nj t&&(lE t&&(ma t&&(lX t&&(oW t&&(nv t&&(sF t&&(oP t (-1) t.checks&&t.insns.all (gz t))))))))))
theorem f37_eq(t:ao)(h:Sz t):f37 t=some (MayB t):=by
 unfold f37 MayB
 cases h1:decide ((t.insns.length:Int)<1)||decide ((t.insns.length:Int)>65536)
 ·have hol:(1:Int)≤t.insns.length∧(t.insns.length:Int)≤65536:=by
   simp only[Bool.or_eq_false_iff,decide_eq_false_iff_not] at h1
   omega
  obtain⟨x,hx,_⟩:=bN (L:=t.insns) (i:=(t.insns.length:Int) - 1) oM
  unfold rj
  rw[cdF,w64 oM oM,hx,bnS]
  simp only[al]
  rw[f68_eq t h.inits h.sets,f69_eq,f70_eq t h.lists,f71_eq t h.prots,f72_eq,f73_eq,f74_eq,f75_eq t h.checks]
  rw[f37_l1_eq t _ (some false) _ (λi h0=>by rw[dcT (show i≥0 from h0)];rfl) h.ops oM _ 0 0 rfl (Nat.zero_le _) oM,List.drop_zero]
  unfold ri
  generalize nj t=b1,lE t=b2,ma t=b3,lX t=b4,oW t=b5,nv t=b6,sF t=b7,oP t (-1) t.checks=b8,t.insns.all (gz t)=b9
  have key:∀b:Bool,(bif b then(some b1).bind λr69=>bif !r69 then some false else(some b2).bind λr70=>bif !r70 then some false else(some b3).bind λr71=>bif !r71 then some false else(some b4).bind λr72=>bif !r72 then some false else(some b5).bind λr73=>bif !r73 then some false else(some b6).bind λr74=>bif !r74 then some false else(some b7).bind λr75=>bif !r75 then some false else(some b8).bind λr76=>bif !r76 then some false else bif b9 then some (!decide ((-1:Int)≥0)) else some false else some false)=some (b&&(b1&&(b2&&(b3&&(b4&&(b5&&(b6&&(b7&&(b8&&b9))))))))):=by
   intro b
   cases b
   ·rfl
   ·cases b1
    ·rfl
    ·cases b2
     ·rfl
     ·cases b3
      ·rfl
      ·cases b4
       ·rfl
       ·cases b5
        ·rfl
        ·cases b6
         ·rfl
         ·cases b7
          ·rfl
          ·cases b8
           ·rfl
           ·cases b9<;>rfl
  cases decide (x.op=29)
  ·cases decide (x.op=33)
   ·cases decide (x.op=34)
    ·exact key _
    ·exact key true
   ·exact key true
  ·exact key true
 ·rfl
theorem bm{α:Type}{b:Nat}{L M:List α}(hb:b≤64)(h:L.length+M.length≤2000000000000):cu b L M=true:=by
 unfold cu
 have:maxLen=9223372036854775807:=by decide
 rw[this,dcT oM,Bool.true_and]
 refine dcT ?_
 have:(L.length+M.length)*b≤2000000000000*64:=Nat.mul_le_mul h hb
 omega
theorem oG{b:Nat}{n:Int}(hb:b≤64)(h0:0≤n)(h:n≤2000000000000):nn b n=true:=by
 unfold nn
 have:maxLen=9223372036854775807:=by decide
 rw[this,dcT h0,dcT (show n≤((9223372036854775807:Nat):Int) by omega),Bool.true_and,Bool.and_true]
 refine dcT ?_
 have:(b:Int)*n≤64*2000000000000:=Int.mul_le_mul oM h h0 oM
 omega
structure VT(t:ao):Prop where
 sz:Sz t
 n:1≤t.insns.length∧t.insns.length≤65536
 objs:t.objs.length≤4096
 excs:4≤t.excs∧t.excs≤64
 obj:∀o∈t.objs,fR t.objs o=true
 inits:eG t.objs [] t.inits=true
 hdls:t.handlers.length≤4096
 fits:∀x∈t.insns,gz t x=true
 last:rj t=true
 hok:fX t [] t.handlers=true
theorem ms{t:ao}(hs:Sz t)(h:MayB t=true):VT t:=by
 unfold MayB nj nv at h
 simp only[Bool.and_eq_true,Bool.not_eq_true',Bool.or_eq_false_iff,decide_eq_false_iff_not,List.all_eq_true] at h
 exact⟨hs,oM,oM,oM,h.2.2.1.2.1,h.2.2.1.2.2.1,oM,h.2.2.2.2.2.2.2.2.2.2,h.2.1,h.2.2.2.2.2.2.2.1.2⟩
theorem kQ{os:List Obj}:∀(L:List Int)(last:Int),hP os last L=true→-1≤last→last<os.length→(L.length:Int)+last+1≤os.length
 |[],last,_,h1,h2=>by simp;omega
 |x::r,last,h,h1,h2=>by
  simp only[hP,Bool.and_eq_true,decide_eq_true_eq] at h
  have hx:x<os.length:=by
   have:=h.1.2
   unfold aim at this
   cases hi:idx os x with
   |none=>rw[hi] at this;cases this
   |some y=>exact(bX hi).2
  have:=kQ r x h.2 oM hx
  simp;omega
theorem sA{os:List Obj}{o:Obj}(h:fR os o=true)(hn:0<os.length):1≤o.size∧o.size≤16384∧o.lo≤o.hi∧(o.set_.length:Int)≤os.length:=by
 unfold fR at h
 simp only[Bool.and_eq_true,Bool.not_eq_true',Bool.or_eq_false_iff,decide_eq_false_iff_not] at h
 refine⟨oM,oM,oM,?_⟩
 cases hp:o.ptr
 ·have h2:=h.2
  rw[hp] at h2
  simp only[Bool.not_false,cdT,decide_eq_true_eq] at h2
  omega
 ·have h2:=h.2
  rw[hp] at h2
  simp only[Bool.not_true,cdF,Bool.and_eq_true] at h2
  have:=kQ _ _ h2.1 oM oM
  omega
theorem VT.o{t:ao}(h:VT t){o:Obj}(ho:o∈t.objs):1≤o.size∧o.size≤16384∧o.lo≤o.hi∧(o.set_.length:Int)≤4096:=by
 have h2:=h.objs
 have:=sA (h.obj o ho) (List.length_pos_of_mem ho)
 omega
theorem fW{os:List Obj}:∀(L:List eO)(m:List ((Int×Int)×Bool)),eG os m L=true→∀x∈L,iK os x=true
 |[],_,_,x,hx=>by cases hx
 |y::r,m,h,x,hx=>by
  simp only[eG,Bool.and_eq_true] at h
  rcases List.mem_cons.1 hx with e|e
  ·rw[e];exact h.1.2
  ·exact fW r _ h.2 x e
def p9(o:Obj):Int:=bif fits o 0 then 0 else o.lo
def de(o:Obj):List Int:=List.replicate o.size.toNat (p9 o)
theorem f41_l2_eq(j:Nat)(k:List (List Int)→Option (List (List Int)))(o:Obj)(x:List Int)(hl:x.length<9223372036854775808):∀(n i:Nat)(z:Int)(S:List (List Int)),z=(i:Int)→i≤x.length→x.length<n+i→j<S.length→
  S[j]? =some (List.replicate i o.lo++List.replicate (x.length - i) 0)→f41_l2 (j:Int) k o x n z S=k (S.set j (List.replicate x.length o.lo))
 |0,i,z,S,_,_,h,_,_=>oM
 |n+1,i,z,S,hz,hi,h,hj,hS=>by
  subst hz
  rw[f41_l2]
  have hget:S[j]=List.replicate i o.lo++List.replicate (x.length - i) 0:=by
   rw[geG hj] at hS
   exact inS hS
  by_cases hh:i<x.length
  ·rw[dcT (by omega:(i:Int)<(x.length:Int)),cdT,aQ hj,bnS,hget]
   rw[aQ (show i<(List.replicate i o.lo++List.replicate (x.length - i) (0:Int)).length by simp;omega),bnS,w64 oM oM]
   simp only[Int.toNat_natCast]
   rw[f41_l2_eq j k o x hl n (i+1) _ _ (by push_cast;rfl) oM oM (by simpa using hj)]
   ·rw[List.set_set]
   ·rw[List.getElem?_set_self hj]
    congr 1
    rw[List.set_append_right _ _ sM,List.length_replicate,Nat.sub_self]
    obtain⟨q,hq⟩:∃q,x.length - i=q+1:=⟨x.length - i - 1,oM⟩
    rw[hq,List.replicate_succ,List.set_cons_zero,List.replicate_succ',List.append_assoc,show x.length - (i+1)=q by omega]
    rfl
  ·rw[dcF (by omega:¬(i:Int)<(x.length:Int)),cdF]
   have:i=x.length:=oM
   subst this
   congr 1
   rw[Nat.sub_self,List.replicate_zero,List.append_nil] at hget
   rw[←hget,List.set_getElem_self]
theorem f41_l1_eq(t:ao)(hv:VT t)(k:List (List Int)→Option (List (List Int))):∀(n i:Nat)(z:Int),z=(i:Int)→i≤t.objs.length→t.objs.length<n+i→
  f41_l1 t k n z ((t.objs.take i).map de++List.replicate (t.objs.length - i) [])=k (t.objs.map de)
 |0,i,z,_,_,h=>oM
 |n+1,i,z,hz,hi,h=>by
  subst hz
  have ho:=hv.objs
  rw[f41_l1]
  by_cases hh:i<t.objs.length
  ·rw[dcT (by omega:(i:Int)<(t.objs.length:Int)),cdT]
   simp only[al]
   rw[aQ hh,bnS]
   have hm:=hv.o (List.getElem_mem hh)
   have hL:((t.objs.take i).map de++List.replicate (t.objs.length - i) ([]:List Int)).length=t.objs.length:=by simp;omega
   have hstep:∀v,v=de t.objs[i]→(((t.objs.take i).map de++List.replicate (t.objs.length - i) ([]:List Int)).set i v)=(t.objs.take (i+1)).map de++List.replicate (t.objs.length - (i+1)) []:=λv hv=>by
    rw[List.set_append_right _ _ (by simp;omega)]
    have e:i - ((t.objs.take i).map de).length=0:=by simp;omega
    obtain⟨q,hq⟩:∃q,t.objs.length - i=q+1:=⟨t.objs.length - i - 1,oM⟩
    rw[e,hq,List.replicate_succ,List.set_cons_zero,List.take_succ_eq_append_getElem hh,List.map_append,List.append_assoc,show t.objs.length - (i+1)=q by omega,hv]
    rfl
   rw[bH _ (oG oM oM oM),aQ oM,bnS,f79_eq _ _ (hv.sz.sets _ (List.getElem_mem hh)),bnS,w64 oM oM]
   simp only[Int.toNat_natCast]
   generalize hS:(t.objs.take i).map de++List.replicate (t.objs.length - i) ([]:List Int)=S at*
   cases hf:fits t.objs[i] 0
   ·rw[Bool.not_false,cdT,aQ (show i<(S.set i (List.replicate t.objs[i].size.toNat (0:Int))).length by simp;omega),bnS]
    rw[List.getElem_set_self]
    rw[f41_l2_eq i _ _ _ (by simp;omega) _ 0 0 _ rfl (Nat.zero_le _) oM (by simp;omega) (by rw[List.getElem?_set_self oM];simp),List.set_set,List.length_replicate]
    rw[hstep _ (by unfold de p9;rw[hf];rfl)]
    exact f41_l1_eq t hv k n (i+1) _ (by push_cast;rfl) oM oM
   ·rw[Bool.not_true,cdF,hstep _ (by unfold de p9;rw[hf];rfl)]
    exact f41_l1_eq t hv k n (i+1) _ (by push_cast;rfl) oM oM
  ·rw[dcF (by omega:¬(i:Int)<(t.objs.length:Int)),cdF]
   have:i=t.objs.length:=oM
   subst this
   rw[Nat.sub_self,List.replicate_zero,List.append_nil,List.take_length]
def jP(S:List (List Int))(x:eO):List (List Int):=S.set x.o.toNat (((S[x.o.toNat]?).getD []).set x.slot.toNat x.v)
def Shape(os:List Obj)(S:List (List Int)):Prop:=S.map (λr=>(r.length:Int))=os.map (·.size)
theorem Shape.len{os:List Obj}{S:List (List Int)}(h:Shape os S):S.length=os.length:=by
 have:=congrArg List.length h
 simpa using this
theorem Shape.at{os:List Obj}{S:List (List Int)}(h:Shape os S){i:Nat}{o:Obj}(ho:os[i]? =some o):∃r,S[i]? =some r∧(r.length:Int)=o.size:=by
 have h2:=congrArg (λL=>L[i]?) h
 simp only[List.getElem?_map,ho,Option.map_some] at h2
 cases hr:S[i]? with
 |none=>rw[hr] at h2;simp at h2
 |some r=>rw[hr] at h2;exact⟨r,rfl,by simpa using h2⟩
theorem Shape.set{os:List Obj}{S:List (List Int)}(h:Shape os S)(i j:Nat)(v:Int):Shape os (S.set i (((S[i]?).getD []).set j v)):=by
 unfold Shape at*
 rw[←h,List.map_set]
 refine List.ext_getElem? λk=>?_
 rw[List.getElem?_set]
 by_cases hk:i=k
 ·subst hk
  by_cases hl:i<S.length
  ·simp[hl]
  ·simp[hl]
 ·rw[if_neg hk]
theorem f41_l3_eq(t:ao)(hv:VT t)(k:List (List Int)→Option (List (List Int))):∀(n i:Nat)(z:Int)(S:List (List Int)),z=(i:Int)→i≤t.inits.length→t.inits.length<n+i→Shape t.objs S→
  f41_l3 t k n z S=k ((t.inits.drop i).foldl jP S)
 |0,i,z,S,_,_,h,_=>oM
 |n+1,i,z,S,hz,hi,h,hS=>by
  subst hz
  have hl:=hv.sz.inits
  rw[f41_l3]
  by_cases hh:i<t.inits.length
  ·have hx:=fW _ _ hv.inits _ (List.getElem_mem hh)
   rw[aH hh,List.foldl_cons,dcT (by omega:(i:Int)<(t.inits.length:Int)),cdT,aQ hh,bnS]
   generalize t.inits[i]=x at hx
   unfold iK at hx
   rw[Bool.and_eq_true] at hx
   obtain⟨o,ho,h0,h1⟩:=lG hx.1
   have hob:=hv.o (bY ho)
   obtain⟨r,hr,hrl⟩:=hS.at (bB ho)
   have e:idx S x.o=some r:=by
    unfold idx
    rw[dcT (bX ho).1]
    exact hr
   rw[w64 oM oM] at h1
   obtain⟨v,hv',_⟩:=bN (L:=r) (i:=x.slot) oM
   rw[e,bnS,hv',bnS,w64 oM oM]
   have e2:jP S x=S.set x.o.toNat (r.set x.slot.toNat x.v):=by unfold jP;rw[hr];rfl
   rw[←e2]
   exact f41_l3_eq t hv k n (i+1) _ _ (by push_cast;rfl) oM oM (hS.set _ _ _)
  ·rw[dcF (by omega:¬(i:Int)<(t.inits.length:Int)),cdF,List.drop_eq_nil_of_le oM]
   rfl
def store(t:ao):List (List Int):=t.inits.foldl jP (t.objs.map de)
theorem kP{t:ao}(hv:VT t):Shape t.objs (t.objs.map de):=by
 unfold Shape
 rw[List.map_map]
 refine List.map_congr_left λo ho=>?_
 have:=hv.o ho
 simp[de];omega
theorem jK{os:List Obj}:∀(L:List eO)(S:List (List Int)),Shape os S→Shape os (L.foldl jP S)
 |[],_,h=>h
 |_x::r,_,h=>jK r _ (h.set _ _ _)
theorem jf{t:ao}(hv:VT t):Shape t.objs (store t):=jK _ _ (kP hv)
theorem f41_eq(t:ao)(hs:Sz t)(h:MayB t=true):f41 t=some (store t):=by
 have hv:=ms hs h
 have ho:=hv.objs
 unfold f41
 rw[f37_eq t hs,h,bnS,Bool.not_true,cdF,bH _ (oG oM oM oM)]
 simp only[al]
 have e:=f41_l1_eq t hv (λl74=>f41_l3 t (λl105=>some l105) (Int.toNat ((List.length t.inits:Int) - 0)+1) 0 l74) (Int.toNat ((List.length t.objs:Int) - 0)+1) 0 0 rfl (Nat.zero_le _) oM
 rw[List.take_zero,List.map_nil,List.nil_append,Nat.sub_zero] at e
 rw[Int.toNat_natCast,e,f41_l3_eq t hv _ _ 0 0 _ rfl (Nat.zero_le _) oM (kP hv),List.drop_zero]
 rfl
theorem f10_l1_eq(R:List Obj)(k:List Obj→Option (Int×(List ak)×(List an)×(List Obj)×Int×(List Int)×(List (List Int))×(List Int)))(hl:R.length<9223372036854775808)(hs:∀o∈R,o.set_.length≤4096):∀(n i:Nat)(z:Int),z=(i:Int)→i≤R.length→R.length<n+i→
  f10_l1 R k n z R=k R
 |0,i,z,_,_,h=>oM
 |n+1,i,z,hz,hi,h=>by
  subst hz
  rw[f10_l1]
  by_cases hh:i<R.length
  ·have:=hs _ (List.getElem_mem hh)
   rw[dcT (by omega:(i:Int)<(R.length:Int)),cdT,aQ hh,bnS,f43,bH _ (bm oM (by simp;omega)),bnS,bnS,w64 oM oM]
   simp only[Int.toNat_natCast]
   rw[show Obj.mk R[i].size R[i].lo R[i].hi R[i].ptr R[i].set_=R[i] from rfl,List.set_getElem_self]
   exact f10_l1_eq R k hl hs n (i+1) _ (by push_cast;rfl) oM oM
  ·rw[dcF (by omega:¬(i:Int)<(R.length:Int)),cdF]
theorem f10_eq(t:ao)(in1:List Int)(hs:Sz t)(h:MayB t=true)(hin:in1.length≤1000000):f10 t in1=some (0,t.insns,t.handlers,t.objs,t.excs,in1,store t,[]):=by
 have hv:=ms hs h
 have h1:=hv.objs
 have h2:=hv.n
 have h3:=hv.hdls
 unfold f10
 rw[f37_eq t hs,h,bnS,Bool.not_true,cdF]
 unfold f38 f39 f40n f42
 rw[bH _ (bm oM (by simp;omega)),bnS,bH _ (bm oM (by simp;omega)),bnS,bH _ (bm oM (by simp;omega)),bnS,f41_eq t hs h,bnS,bH _ (bm oM (by simp;omega)),bnS,al]
 exact f10_l1_eq t.objs _ oM (λo ho=>by have:=hv.o ho;omega) _ 0 0 rfl (Nat.zero_le _) oM
def Sat{α:Type}(o:Option α)(Q:α→Prop):Prop:=∃r,o=some r∧Q r
theorem Sat.pure{α:Type}{a:α}{Q:α→Prop}(h:Q a):Sat (some a) Q:=⟨a,rfl,h⟩
theorem Sat.bind{α β:Type}{o:Option α}{f:α→Option β}{P:α→Prop}{Q:β→Prop}(h:Sat o P)(hf:∀x,P x→Sat (f x) Q):Sat (o.bind f) Q:=by
 obtain⟨r,h1,h2⟩:=h
 rw[h1]
 exact hf r h2
theorem Sat.cond{α:Type}{c:Bool}{a b:Option α}{Q:α→Prop}(h1:c=true→Sat a Q)(h2:c=false→Sat b Q):Sat (bif c then a else b) Q:=by
 cases c
 ·exact h2 rfl
 ·exact h1 rfl
theorem Sat.guard{α:Type}{c:Bool}{a:Option α}{Q:α→Prop}(h1:c=true)(h2:Sat a Q):Sat (ay c a) Q:=by rw[bH _ h1];exact h2
theorem Sat.letk{α κ:Type}{k:κ}{f:κ→Option α}{Q:α→Prop}(P:κ→Prop)(hk:P k)(hf:∀k',P k'→Sat (f k') Q):Sat (letk k f) Q:=hf k hk
theorem Sat.cs{α β:Type}{r:Rs α}{f:Int→Option β}{g:α→Option β}{Q:β→Prop}(h1:∀e,r=Rs.bad e→Sat (f e) Q)(h2:∀z,r=Rs.ok z→Sat (g z) Q):Sat (Rs.cs r f g) Q:=by
 cases r with
 |ok z=>exact h2 z rfl
 |bad e=>exact h1 e rfl
theorem Sat.mono{α:Type}{o:Option α}{P Q:α→Prop}(h:Sat o P)(hpq:∀x,P x→Q x):Sat o Q:=by
 obtain⟨r,h1,h2⟩:=h
 exact⟨r,h1,hpq r h2⟩
theorem Sat.eq{α:Type}{o:Option α}{a:α}(h:o=some a):Sat o (λx=>x=a):=⟨a,h,rfl⟩
theorem Sat.idx{α:Type}{L:List α}{i:Int}(h:0≤i∧i<L.length):Sat (idx L i) (λx=>idx L i=some x):=by
 obtain⟨x,hx,_⟩:=bN h
 exact⟨x,hx,hx⟩
theorem fl_d:∀(L:List (Int×Int))(d a b n m to:Int),fl L d a b n m to=true→d=0∨∃w,(68,w)∈L∧rng w d=true
 |[],d,a,b,n,m,to,h=>by
  simp only[fl,Bool.and_eq_true,decide_eq_true_eq] at h
  exact .inl oM
 |(c,w)::r,d,a,b,n,m,to,h=>by
  have up:(d=0∨∃w,(68,w)∈r∧rng w d=true)→d=0∨∃w',(68,w')∈(c,w)::r∧rng w' d=true:=λhh=>by
   rcases hh with h|⟨w',h1,h2⟩
   ·exact .inl h
   ·exact .inr ⟨w',List.mem_cons_of_mem _ h1,h2⟩
  rw[fl] at h
  by_cases hq:c=68
  ·subst hq
   refine .inr ⟨w,List.mem_cons_self,?_⟩
   have h':(rng w d&&fl r 0 a b n m to)=true:=h
   rw[Bool.and_eq_true] at h'
   exact h'.1
  ·have e:decide (c=68)=false:=dcF hq
   rw[e] at h
   revert h
   cases decide (c=68)<;>cases decide (c=65)<;>cases decide (c=66)<;>cases decide (c=78)<;>cases decide (c=77)<;>intro h<;>simp only[cdT,cdF,Bool.and_eq_true] at h<;>exact up (fl_d _ _ _ _ _ _ _ h.2)
theorem fl_a:∀(L:List (Int×Int))(d a b n m to:Int),fl L d a b n m to=true→a=0∨∃w,(65,w)∈L∧rng w a=true
 |[],d,a,b,n,m,to,h=>by
  simp only[fl,Bool.and_eq_true,decide_eq_true_eq] at h
  exact .inl oM
 |(c,w)::r,d,a,b,n,m,to,h=>by
  have up:(a=0∨∃w,(65,w)∈r∧rng w a=true)→a=0∨∃w',(65,w')∈(c,w)::r∧rng w' a=true:=λhh=>by
   rcases hh with h|⟨w',h1,h2⟩
   ·exact .inl h
   ·exact .inr ⟨w',List.mem_cons_of_mem _ h1,h2⟩
  rw[fl] at h
  by_cases hq:c=65
  ·subst hq
   refine .inr ⟨w,List.mem_cons_self,?_⟩
   have h':(rng w a&&fl r d 0 b n m to)=true:=h
   rw[Bool.and_eq_true] at h'
   exact h'.1
  ·have e:decide (c=65)=false:=dcF hq
   rw[e] at h
   revert h
   cases decide (c=68)<;>cases decide (c=65)<;>cases decide (c=66)<;>cases decide (c=78)<;>cases decide (c=77)<;>intro h<;>simp only[cdT,cdF,Bool.and_eq_true] at h<;>exact up (fl_a _ _ _ _ _ _ _ h.2)
theorem fl_b:∀(L:List (Int×Int))(d a b n m to:Int),fl L d a b n m to=true→b=0∨∃w,(66,w)∈L∧rng w b=true
 |[],d,a,b,n,m,to,h=>by
  simp only[fl,Bool.and_eq_true,decide_eq_true_eq] at h
  exact .inl oM
 |(c,w)::r,d,a,b,n,m,to,h=>by
  have up:(b=0∨∃w,(66,w)∈r∧rng w b=true)→b=0∨∃w',(66,w')∈(c,w)::r∧rng w' b=true:=λhh=>by
   rcases hh with h|⟨w',h1,h2⟩
   ·exact .inl h
   ·exact .inr ⟨w',List.mem_cons_of_mem _ h1,h2⟩
  rw[fl] at h
  by_cases hq:c=66
  ·subst hq
   refine .inr ⟨w,List.mem_cons_self,?_⟩
   have h':(rng w b&&fl r d a 0 n m to)=true:=h
   rw[Bool.and_eq_true] at h'
   exact h'.1
  ·have e:decide (c=66)=false:=dcF hq
   rw[e] at h
   revert h
   cases decide (c=68)<;>cases decide (c=65)<;>cases decide (c=66)<;>cases decide (c=78)<;>cases decide (c=77)<;>intro h<;>simp only[cdT,cdF,Bool.and_eq_true] at h<;>exact up (fl_b _ _ _ _ _ _ _ h.2)
theorem t6:∀k,k<41→((qb ((k:Nat)+1:Int)).all λp=>(!(decide (p.1=68))||decide (p.2=114))&&((!(decide (p.1=65))||decide (p.2=114))&&(!(decide (p.1=66))||(decide (p.2=114)||(decide (k=4)||decide (k=5))))))=true:=by decide+kernel
theorem qU{v:Int}(h:rng 114 v=true):0≤v∧v≤15:=by
 simp only[rng,f179] at h
 simp at h
 omega
theorem jH{v:Int}(h:0≤v∧v≤15):bh 16 v=true:=by
 obtain⟨n,rfl⟩:=Int.eq_ofNat_of_zero_le h.1
 have:n<16:=oM
 simp[bh,this]
structure Rg(x:ak):Prop where
 o:1≤x.op∧x.op≤41
 d:bh 16 x.d=true
 a:bh 16 x.a=true
 b:x.op≠5→x.op≠6→bh 16 x.b=true
theorem mf{x:ak}(h:eT x=true)(ho:1≤x.op∧x.op≤41):Rg x:=by
 unfold eT at h
 simp only[Bool.and_eq_true] at h
 have hf:=h.2.2
 obtain⟨k,hk⟩:∃k:Nat,x.op=(k:Int)+1:=⟨(x.op - 1).toNat,oM⟩
 have ht:=List.all_eq_true.1 (t6 k oM)
 rw[hk] at hf
 refine⟨ho,?_,?_,λh5 h6=>?_⟩
 ·rcases fl_d _ _ _ _ _ _ _ hf with e|⟨w,h1,h2⟩
  ·exact jH oM
  ·have:=ht _ h1
   simp at this
   rw[this] at h2
   exact jH (qU h2)
 ·rcases fl_a _ _ _ _ _ _ _ hf with e|⟨w,h1,h2⟩
  ·exact jH oM
  ·have:=ht _ h1
   simp at this
   rw[this] at h2
   exact jH (qU h2)
 ·rcases fl_b _ _ _ _ _ _ _ hf with e|⟨w,h1,h2⟩
  ·exact jH oM
  ·have:=ht _ h1
   simp at this
   have e:w=114:=oM
   rw[e] at h2
   exact jH (qU h2)
def OKq{α:Type}(Q:α→Prop):Rs α→Prop
 | .bad _=>True
 | .ok z=>Q z
def tk(A:List Act):List Int:=(A.filter λx=>decide (x.kind=2)).map (·.a)
def pt(A:List Act):List Int:=(A.filter λx=>decide (x.kind=1)).map (·.a)
def Quiet(A:List Act):Prop:=tk A=[]∧pt A=[]∧A.length≤1
theorem co:Quiet []:=⟨rfl,rfl,sM⟩
theorem o6{k:Int}(h1:k≠1)(h2:k≠2)(t s a b n:Int):Quiet ([]++ [Act.mk t s k a b n]):=by
 refine⟨?_,?_,sM⟩
 ·simp[tk,h2]
 ·simp[pt,h1]
abbrev TT{α:Type}:Rs α→Prop:=λ_=>True
section
variable(tR:Nat→Int)(tP:Int)(tX:Int)(tD:Int)(mI:List ak)(mH:List an)(mO:List Obj)(mE:Int)(mN:List Int)(mS:List (List Int))(mU:List Int)
theorem f131_sat(tA:List Act):Sat (f131 tR tP tX tD mI mH mO mE mN mS mU tA) TT:=by
 unfold f131
 exact .cond (λ_=> .pure trivial) (λ_=> .pure trivial)
theorem f59_l1_sat{Q:Rs ((Nat→Int)×Int×Int×Int)→Prop}(c1:Int)(k63:Int→Option (Rs ((Nat→Int)×Int×Int×Int)))(k64:Unit→Option (Rs ((Nat→Int)×Int×Int×Int)))(ha:∀t:Int,t<mH.length→Sat (k63 t) Q)(hb:Sat (k64 ()) Q)(hl:mH.length<9223372036854775808):∀(n i:Nat)(z:Int),z=(i:Int)→i≤mH.length→mH.length<n+i→Sat (f59_l1 tP mH c1 k63 k64 n z) Q
 |0,i,z,_,_,h=>oM
 |n+1,i,z,hz,hi,h=>by
  subst hz
  rw[f59_l1]
  refine .cond (λh1=>?_) (λ_=>hb)
  have hh:i<mH.length:=by have:=of_decide_eq_true h1;omega
  refine .bind (.idx oM) λx _=>?_
  rw[al]
  refine .cond (λ_=>ha _ oM) λ_=>?_
  rw[w64 oM oM]
  exact f59_l1_sat c1 k63 k64 ha hb hl n (i+1) _ (by push_cast;rfl) oM oM
theorem f59_sat(hl:mH.length≤4096)(tA:List Act)(c1:Int):Sat (f59 tR tP tX tD mI mH mO mE mN mS mU tA c1) TT:=by
 unfold f59
 refine .letk (λk=>∀t:Int,t<mH.length→Sat (k t) TT) (λt ht=>?_) λk63 h63=>?_
 ·refine .cond (λ_=> .pure trivial) λh0=>?_
  refine .bind (.idx (by have:=of_decide_eq_false h0;omega)) λx _=>?_
  refine .letk (λk=>∀t,Sat (k t) TT) (λt=>?_) λk hk=>?_
  ·exact .cond (λ_=> .pure trivial) (λ_=> .pure trivial)
  ·exact .cond (λ_=>hk _) (λ_=>hk _)
 ·rw[al]
  exact f59_l1_sat tP mH c1 _ _ h63 (h63 _ oM) oM _ 0 0 rfl (Nat.zero_le _) oM
abbrev QA:Rs ((Nat→Int)×Int×Int×Int×(List Act))→Prop:=OKq λz=>Quiet z.2.2.2.2
theorem f56_sat(hl:mH.length≤4096)(n1:Int):Sat (f56 tR tP tX tD mI mH mO mE mN mS mU [] n1) QA:=by
 unfold f56
 refine .bind (f59_sat _ _ _ _ _ _ _ _ _ _ _ hl _ _) λr _=>?_
 refine .cs (λe _=> .pure trivial) λz _=>?_
 refine .guard (bm oM sM) (.pure ?_)
 exact o6 dC dC _ _ _ _ _
def Pl(mS:List (List Int))(o k:Int):Prop:=∃x,idx mS o=some x∧∃v,idx x k=some v
theorem kX(o k:Int):Sat (bif (((decide (o<0))||(decide (o≥(List.length mS:Int))))||(decide (k<0))) then some true else(Option.bind (idx mS o) λx58=>some (decide (k≥(List.length x58:Int))))) (λb=>b=false→Pl mS o k):=by
 refine .cond (λ_=> .pure λh=>by cases h) λh=>?_
 simp only[Bool.or_eq_false_iff,decide_eq_false_iff_not] at h
 refine .bind (.idx oM) λx hx=> .pure λh2=>?_
 have h2:=of_decide_eq_false h2
 obtain⟨v,hv,_⟩:=bN (L:=x) (i:=k) oM
 exact⟨x,hx,v,hv⟩
theorem f81_sat(hS:mS.length=mO.length)(tA:List Act)(x:ak)(hx:Rg x):Sat (f81 tR tP tX tD mI mH mO mE mN mS mU tA x) TT:=by
 unfold f81
 refine .letk (λk=>Sat (k ()) TT) (.pure trivial) λk28 h28=>?_
 refine .letk (λk=>∀t o i a b c d e,Pl mS o i→Sat (k t o i a b c d e) TT) (λt o i a b c d e hp=>?_) λk37 h37=>?_
 ·obtain⟨x,h1,v,h2⟩:=hp
  refine .bind (.eq h1) λ_ e1=>?_
  rw[e1]
  refine .bind (.eq h2) λ_ e2=> .guard hx.d (.bind (f131_sat _ _ _ _ _ _ _ _ _ _ _ _) λr _=>?_)
  exact .cs (λ_ _=> .pure trivial) (λ_ _=> .pure trivial)
 ·refine .guard hx.a (.letk (λk=>∀o i,Sat (k o i) TT) (λo i=>?_) λk41 h41=>?_)
  ·rw[al]
   refine .letk (λk=>Pl mS o i→Sat (k ()) TT) (λhp=>?_) λk56 h56=>?_
   ·obtain⟨x,h1,v,h2⟩:=id hp
    have:=bX h1
    refine .bind (.idx oM) λy _=>h37 _ _ _ _ _ _ _ _ hp
   ·refine .bind (kX mS o i) λb hb=> .cond (λ_=>h28) λh0=>?_
    have hp:=hb h0
    obtain⟨x,h1,v,h2⟩:=id hp
    refine .bind (.eq h1) λ_ e1=>?_
    rw[e1]
    exact .bind (.eq h2) λ_ _=>h56 hp
  ·refine .letk (λk=>∀b,Sat (k b) TT) (λb=>?_) λk43 h43=> .cond (λ_=>h43 _) (λ_=>h43 _)
   refine .cond (λ_=> .cond (λ_=>h28) λ_=>h41 _ _) λ_=>?_
   refine .letk (λk=>∀b,Sat (k b) TT) (λb=>?_) λk49 h49=> .cond (λ_=>h49 _) (λ_=>h49 _)
   exact .cond (λ_=> .cond (λ_=>h28) λ_=>h41 _ _) λ_=>h41 _ _
theorem f104_sat(s:List Int)(v:Int)(hl:s.length<9223372036854775808):∃b,f104 s v=some b:=by
 have key:∀(n i:Nat)(z:Int),z=(i:Int)→i≤s.length→s.length<n+i→∃r,f145_l1 s v (λ_=>some (-1)) n z=some r:=by
  intro n
  induction n with
  |zero=>intro i z _ _ _;omega
  |succ n ih=>
   intro i z hz hi h
   subst hz
   rw[f145_l1]
   by_cases hh:i<s.length
   ·rw[dcT (by omega:(i:Int)<(s.length:Int)),cdT,aQ hh,bnS]
    cases decide (v=s[i])
    ·rw[cdF,w64 oM oM]
     exact ih (i+1) _ (by push_cast;rfl) oM oM
    ·exact⟨_,rfl⟩
   ·rw[dcF (by omega:¬(i:Int)<(s.length:Int)),cdF]
    exact⟨_,rfl⟩
 obtain⟨r,hr⟩:=key (Int.toNat ((List.length s:Int) - 0)+1) 0 0 rfl (Nat.zero_le _) oM
 unfold f104 f145
 rw[al,hr]
 exact⟨_,rfl⟩
theorem f63_sat(o:Obj)(v:Int)(hl:o.set_.length<9223372036854775808):Sat (f63 o v) (λ_=>True):=by
 unfold f63
 refine .cond (λ_=>?_) λ_=> .pure trivial
 refine .bind (P:=λ_=>True) (.cond (λ_=> .pure trivial) λ_=>?_) λb _=> .pure trivial
 obtain⟨b,hb⟩:=f104_sat o.set_ (IntKind.i64.wrap (v - 1)) hl
 exact .bind (.eq hb) λ_ _=> .pure trivial
abbrev QS(n:Nat):Rs ((Nat→Int)×Int×Int×Int×(List (List Int)))→Prop:=OKq λz=>z.2.2.2.2.length=n
theorem f82_sat(hS:mS.length=mO.length)(hO:∀o∈mO,o.set_.length<9223372036854775808)(tA:List Act)(x:ak)(hx:Rg x):Sat (f82 tR tP tX tD mI mH mO mE mN mS mU tA x) (QS mS.length):=by
 unfold f82
 refine .guard hx.d (.letk (λk=>∀v,Sat (k v) (QS mS.length)) (λv46=>?_) λk hk=>?_)
 ·refine .letk (λk=>Sat (k ()) (QS mS.length)) (.pure trivial) λk50 h50=>?_
  refine .letk (λk=>∀t o i a b c d e,t∈mO→Pl mS o i→Sat (k t o i a b c d e) (QS mS.length)) (λt o i a b c d e ht hp=>?_) λk59 h59=>?_
  ·refine .bind (f63_sat t v46 (hO t ht)) λr _=> .cond (λ_=> .pure trivial) λ_=>?_
   refine .bind (f131_sat _ _ _ _ _ _ _ _ _ _ _ _) λr _=> .cs (λ_ _=> .pure trivial) λz _=>?_
   obtain⟨x,h1,v,h2⟩:=hp
   refine .bind (.eq h1) λ_ e1=>?_
   rw[e1]
   refine .bind (.eq h2) λ_ e2=> .pure ?_
   show(List.set _ _ _).length=_
   rw[List.length_set]
  ·refine .guard hx.a (.letk (λk=>∀o i,Sat (k o i) (QS mS.length)) (λo i=>?_) λk41 h41=>?_)
   ·rw[al]
    refine .letk (λk=>Pl mS o i→Sat (k ()) (QS mS.length)) (λhp=>?_) λk56 h56=>?_
    ·obtain⟨x,h1,v,h2⟩:=id hp
     have:=bX h1
     refine .bind (.idx oM) λy hy=>h59 _ _ _ _ _ _ _ _ (bY hy) hp
    ·refine .bind (kX mS o i) λb hb=> .cond (λ_=>h50) λh0=>?_
     have hp:=hb h0
     obtain⟨x,h1,v,h2⟩:=id hp
     refine .bind (.eq h1) λ_ e1=>?_
     rw[e1]
     exact .bind (.eq h2) λ_ _=>h56 hp
   ·refine .letk (λk=>∀b,Sat (k b) (QS mS.length)) (λb=>?_) λk43 h43=> .cond (λ_=>h43 _) (λ_=>h43 _)
    refine .cond (λ_=> .cond (λ_=>h50) λ_=>h41 _ _) λ_=>?_
    refine .letk (λk=>∀b,Sat (k b) (QS mS.length)) (λb=>?_) λk49 h49=> .cond (λ_=>h49 _) (λ_=>h49 _)
    exact .cond (λ_=> .cond (λ_=>h50) λ_=>h41 _ _) λ_=>h41 _ _
 ·exact .cond (λ_=> .guard hx.a (hk _)) (λ_=>hk _)
theorem f83_sat(tA:List Act)(x:ak)(hx:Rg x):Sat (f83 tR tP tX tD mI mH mO mE mN mS mU tA x) TT:=by
 unfold f83
 refine .guard hx.a (.cond (λ_=> .pure trivial) λ_=>?_)
 refine .letk (λk=>∀b,Sat (k b) TT) (λb=>?_) λk hk=> .cond (λ_=>hk _) (λ_=> .cond (λ_=>hk _) λ_=>hk _)
 exact .cond (λ_=> .pure trivial) λ_=> .bind (f131_sat _ _ _ _ _ _ _ _ _ _ _ _) λr _=> .cs (λ_ _=> .pure trivial) (λ_ _=> .pure trivial)
theorem f84_sat(hl:mH.length≤4096)(x:ak)(hx:Rg x):Sat (f84 tR tP tX tD mI mH mO mE mN mS mU [] x) QA:=by
 unfold f84
 refine .guard hx.a (.cond (λ_=>?_) λ_=>?_)
 ·exact .bind (f56_sat _ _ _ _ _ _ _ _ _ _ _ hl _) λr hr=> .cs (λ_ _=> .pure trivial) (λz hz=> .pure (by rw[hz] at hr;exact hr))
 ·exact .bind (f131_sat _ _ _ _ _ _ _ _ _ _ _ _) λr _=> .cs (λ_ _=> .pure trivial) (λ_ _=> .pure co)
theorem f85_sat(hl:mH.length≤4096)(x:ak)(hx:Rg x):Sat (f85 tR tP tX tD mI mH mO mE mN mS mU [] x) QA:=by
 unfold f85
 refine .guard hx.a (.cond (λ_=>?_) λ_=> .cond (λ_=>?_) λ_=> .cond (λ_=> .pure trivial) λ_=> .cond (λ_=>?_) λ_=>?_)
 ·exact .bind (f56_sat _ _ _ _ _ _ _ _ _ _ _ hl _) λr hr=> .cs (λ_ _=> .pure trivial) (λz hz=> .pure (by rw[hz] at hr;exact hr))
 ·exact .bind (f131_sat _ _ _ _ _ _ _ _ _ _ _ _) λr _=> .cs (λ_ _=> .pure trivial) (λ_ _=> .pure co)
 ·exact .bind (f59_sat _ _ _ _ _ _ _ _ _ _ _ hl _ _) λr _=> .cs (λ_ _=> .pure trivial) (λ_ _=> .pure co)
 ·exact .bind (f56_sat _ _ _ _ _ _ _ _ _ _ _ hl _) λr hr=> .cs (λ_ _=> .pure trivial) (λz hz=> .pure (by rw[hz] at hr;exact hr))
def Io(mN mU:List Int)(N U:List Int)(A:List Act):Prop:=tk A++N=mN∧U=mU++pt A∧A.length≤1
theorem jq{mN mU:List Int}{A:List Act}(h:Quiet A):Io mN mU mN mU A:=⟨by rw[h.1];rfl,by rw[h.2.1,List.append_nil],h.2.2⟩
abbrev QI(mN mU:List Int):Rs ((Nat→Int)×Int×Int×Int×(List Int)×(List Int)×(List Act))→Prop:=OKq λz=>Io mN mU z.2.2.2.2.1 z.2.2.2.2.2.1 z.2.2.2.2.2.2
theorem f86_sat(hl:mH.length≤4096)(x:ak)(hx:Rg x)(hk:x.op=37→IntKind.u8.wrap x.n≠1∧IntKind.u8.wrap x.n≠2)(hU:mU.length≤1000000):Sat (f86 tR tP tX tD mI mH mO mE mN mS mU [] x) (QI mN mU):=by
 unfold f86
 refine .cond (λh37=>?_) λ_=> .cond (λ_=>?_) λ_=> .cond (λh0=>?_) λh0=>?_
 ·refine .bind (f131_sat _ _ _ _ _ _ _ _ _ _ _ _) λr _=> .cs (λ_ _=> .pure trivial) (λz _=>?_)
  refine .letk (λk=>∀c,Sat (k c) (QI mN mU)) (λc=> .guard (bm oM sM) (.pure ?_)) λk hk=> .cond (λ_=>hk _) (λ_=>hk _)
  have:=hk (of_decide_eq_true h37)
  exact jq (o6 this.1 this.2 _ _ _ _ _)
 ·refine .guard hx.a (.bind (f131_sat _ _ _ _ _ _ _ _ _ _ _ _) λr _=> .cs (λ_ _=> .pure trivial) λz _=>?_)
  refine .guard (bm oM (by simp;omega)) (.guard (bm oM sM) (.pure ?_))
  exact⟨rfl,rfl,sM⟩
 ·exact .bind (f56_sat _ _ _ _ _ _ _ _ _ _ _ hl _) λr hr=> .cs (λ_ _=> .pure trivial) (λz hz=> .pure (by rw[hz] at hr;exact jq hr))
 ·have h0:=of_decide_eq_false h0
  refine .bind (f131_sat _ _ _ _ _ _ _ _ _ _ _ _) λr _=> .cs (λ_ _=> .pure trivial) (λz _=>?_)
  obtain⟨v,N,rfl⟩:∃v N,mN=v::N:=by
   cases mN with
   |nil=>exact absurd rfl h0
   |cons v N=>exact⟨v,N,rfl⟩
  have e:idx (v::N) 0=some v:=rfl
  refine .bind (.eq e) λ_ _=> .guard hx.d (.bind (.eq e) λy hy=> .guard (bm oM sM) (.guard (by simp[dp];omega) (.pure ?_)))
  refine⟨?_,by simp[pt],sM⟩
  show tk ([]++ [Act.mk 0 0 2 y 0 0])++cm (v::N) 1 ((v::N).length:Int)=_
  rw[hy]
  simp[tk,cm]
theorem f87_sat(tA:List Act)(x:ak)(hx:Rg x):Sat (f87 tR tP tX tD mI mH mO mE mN mS mU tA x) TT:=by
 unfold f87
 refine .letk (λk=>∀R d,Sat (k R d) TT) (λR d=>?_) λk hk=>?_
 ·refine .cond (λ_=> .pure trivial) λ_=> .bind (f131_sat _ _ _ _ _ _ _ _ _ _ _ _) λr _=> .cs (λ_ _=> .pure trivial) (λ_ _=> .pure trivial)
 ·refine .cond (λ_=> .guard hx.d (hk _ _)) λ_=> .cond (λ_=> .guard hx.a (.guard hx.d (hk _ _))) λ_=> .cond (λ_=> .guard hx.d (hk _ _)) λ_=> .cond (λ_=>hk _ _) λ_=> .cond (λ_=>hk _ _) (λ_=>hk _ _)
end
theorem f132_sat(op a b:Int):Sat (f132 op a b) (λ_=>True):=by
 have hdiv:∀(o:Option Int)(v:Int),o=ay (nz b) (some v)→Sat (bif (decide (b=0)) then some ((0:Int),false) else Option.bind o λr=>some (r,true)) (λ_=>True):=λo v ho=> .cond (λ_=> .pure trivial) λh=>by
  rw[ho,bH _ (by have:=of_decide_eq_false h;simp[nz,this])]
  exact .pure trivial
 have hmod:Sat (bif (decide (b=0)) then some ((0:Int),false) else Option.bind (f187 a b) λr=>some (r,true)) (λ_=>True):= .cond (λ_=> .pure trivial) λh=>by
  have hz:nz b=true:=by have:=of_decide_eq_false h;simp[nz,this]
  unfold f187
  rw[bH _ hz]
  refine .bind (P:=λ_=>True) (.cond (λ_=> .pure trivial) λ_=> .guard hz (.pure trivial)) λ_ _=> .pure trivial
 unfold f132
 refine .cond (λ_=> .pure trivial) λ_=> .cond (λ_=> .pure trivial) λ_=>?_
 simp only[al]
 refine .cond (λ_=> .pure trivial) λ_=> .cond (λ_=> .pure trivial) λ_=> .cond (λ_=> .pure trivial) λ_=> .cond (λ_=>hdiv _ _ rfl) λ_=> .cond (λ_=>hdiv _ _ rfl) λ_=> .cond (λ_=>hmod) λ_=>?_
 exact .cond (λ_=> .pure trivial) λ_=> .cond (λ_=> .pure trivial) λ_=> .cond (λ_=> .pure trivial) λ_=> .cond (λ_=> .pure trivial) λ_=> .cond (λ_=> .pure trivial) λ_=> .cond (λ_=> .pure trivial) λ_=> .cond (λ_=> .pure trivial) λ_=> .cond (λ_=> .pure trivial) λ_=> .cond (λ_=> .pure trivial) λ_=> .cond (λ_=> .pure trivial) λ_=> .cond (λ_=> .pure trivial) λ_=> .cond (λ_=> .pure trivial) λ_=> .pure trivial
section
variable(tR:Nat→Int)(tP:Int)(tX:Int)(tD:Int)(mI:List ak)(mH:List an)(mO:List Obj)(mE:Int)(mN:List Int)(mS:List (List Int))(mU:List Int)
theorem f88_sat(tA:List Act)(x:ak)(hx:Rg x)(hb:bh 16 x.b=true):Sat (f88 tR tP tX tD mI mH mO mE mN mS mU tA x) TT:=by
 unfold f88
 refine .guard hx.a (.guard hb (.bind (f132_sat _ _ _) λr _=> .cond (λ_=> .pure trivial) λ_=> .guard hx.d ?_))
 exact .bind (f131_sat _ _ _ _ _ _ _ _ _ _ _ _) λr _=> .cs (λ_ _=> .pure trivial) (λ_ _=> .pure trivial)
def mth(o:Int):Nat:=
 bif decide (o=3)||(decide (o=5)||decide (o=7)) then 81 else
 bif decide (o=4)||(decide (o=6)||decide (o=8)) then 82 else
 bif decide (o=29)||(decide (o=30)||(decide (o=31)||decide (o=32))) then 83 else
 bif decide (o=27)||decide (o=28) then 84 else
 bif decide (o=33)||(decide (o=34)||decide (o=35)) then 85 else
 bif decide (o=37)||(decide (o=38)||decide (o=39)) then 86 else
 bif decide (o=1)||(decide (o=2)||(decide (o=36)||(decide (o=40)||decide (o=41)))) then 87 else 88
theorem f46_eq(tA:List Act)(o:Int):f46 tR tP tX tD mI mH mO mE mN mS mU tA o=some (mth o):=by
 unfold f46 mth
 simp only[al]
 cases decide (o=3)
 ·cases decide (o=5)
  ·cases decide (o=7)
   ·cases decide (o=4)
    ·cases decide (o=6)
     ·cases decide (o=8)
      ·cases decide (o=29)
       ·cases decide (o=30)
        ·cases decide (o=31)
         ·cases decide (o=32)
          ·cases decide (o=27)
           ·cases decide (o=28)
            ·cases decide (o=33)
             ·cases decide (o=34)
              ·cases decide (o=35)
               ·cases decide (o=37)
                ·cases decide (o=38)
                 ·cases decide (o=39)
                  ·cases decide (o=1)
                   ·cases decide (o=2)
                    ·cases decide (o=36)
                     ·cases decide (o=40)
                      ·cases decide (o=41)<;>rfl
                      ·rfl
                     ·rfl
                    ·rfl
                   ·rfl
                  ·rfl
                 ·rfl
                ·rfl
               ·rfl
              ·rfl
             ·rfl
            ·rfl
           ·rfl
          ·rfl
         ·rfl
        ·rfl
       ·rfl
      ·rfl
     ·rfl
    ·rfl
   ·rfl
  ·rfl
 ·rfl
theorem l6(o:Int):81≤mth o∧mth o≤88:=by
 unfold mth
 generalize(decide (o=3)||(decide (o=5)||decide (o=7)))=c1,(decide (o=4)||(decide (o=6)||decide (o=8)))=c2,(decide (o=29)||(decide (o=30)||(decide (o=31)||decide (o=32))))=c3,(decide (o=27)||decide (o=28))=c4,(decide (o=33)||(decide (o=34)||decide (o=35)))=c5,(decide (o=37)||(decide (o=38)||decide (o=39)))=c6,(decide (o=1)||(decide (o=2)||(decide (o=36)||(decide (o=40)||decide (o=41)))))=c7
 revert c1 c2 c3 c4 c5 c6 c7
 decide
theorem q8{o:Int}(h:mth o=88):o≠5∧o≠6:=by
 constructor<;>(rintro rfl;exact absurd h dC)
structure MV:Prop where
 h:mH.length≤4096
 s:mS.length=mO.length
 o:∀o∈mO,o.set_.length<9223372036854775808
 i:∀x∈mI,eT x=true∧0≤x.op
abbrev Z8:Type:=(Nat→Int)×Int×Int×Int×(List Int)×(List (List Int))×(List Int)×(List Act)
abbrev QE(mN mU:List Int)(n:Nat):Rs Z8→Prop:=OKq λz=>Io mN mU z.2.2.2.2.1 z.2.2.2.2.2.2.1 z.2.2.2.2.2.2.2∧z.2.2.2.2.2.1.length=n
theorem uq(hv:MV mI mH mO mS)(hU:mU.length≤1000000)(n:Nat)(hn:81≤n∧n≤88)(x:ak)(hx:Rg x)(hb:n=88→bh 16 x.b=true)(hk:x.op=37→IntKind.u8.wrap x.n≠1∧IntKind.u8.wrap x.n≠2):
  Sat (fm n tR tP tX tD mI mH mO mE mN mS mU [] x) (QE mN mU mS.length):=by
 unfold fm
 refine .cond (λ_=>?_) λe1=> .cond (λ_=>?_) λe2=> .cond (λ_=>?_) λe3=> .cond (λ_=>?_) λe4=> .cond (λ_=>?_) λe5=> .cond (λ_=>?_) λe6=> .cond (λ_=>?_) λe7=> .cond (λe=>?_) λe8=>?_
 ·exact .bind (f81_sat _ _ _ _ _ _ _ _ _ _ _ hv.s _ _ hx) λr _=> .pure (by cases r<;>first|trivial|exact⟨jq co,rfl⟩)
 ·exact .bind (f82_sat _ _ _ _ _ _ _ _ _ _ _ hv.s hv.o _ _ hx) λr hr=> .pure (by cases r<;>first|trivial|exact⟨jq co,hr⟩)
 ·exact .bind (f83_sat _ _ _ _ _ _ _ _ _ _ _ _ _ hx) λr _=> .pure (by cases r<;>first|trivial|exact⟨jq co,rfl⟩)
 ·exact .bind (f84_sat _ _ _ _ _ _ _ _ _ _ _ hv.h _ hx) λr hr=> .pure (by cases r<;>first|trivial|exact⟨jq hr,rfl⟩)
 ·exact .bind (f85_sat _ _ _ _ _ _ _ _ _ _ _ hv.h _ hx) λr hr=> .pure (by cases r<;>first|trivial|exact⟨jq hr,rfl⟩)
 ·exact .bind (f86_sat _ _ _ _ _ _ _ _ _ _ _ hv.h _ hx hk hU) λr hr=> .pure (by cases r<;>first|trivial|exact⟨hr,rfl⟩)
 ·exact .bind (f87_sat _ _ _ _ _ _ _ _ _ _ _ _ _ hx) λr _=> .pure (by cases r<;>first|trivial|exact⟨jq co,rfl⟩)
 ·exact .bind (f88_sat _ _ _ _ _ _ _ _ _ _ _ _ _ hx (hb (by simpa using e))) λr _=> .pure (by cases r<;>first|trivial|exact⟨jq co,rfl⟩)
 ·exfalso
  have:=Nat.ne_of_beq_eq_false e1
  have:=Nat.ne_of_beq_eq_false e2
  have:=Nat.ne_of_beq_eq_false e3
  have:=Nat.ne_of_beq_eq_false e4
  have:=Nat.ne_of_beq_eq_false e5
  have:=Nat.ne_of_beq_eq_false e6
  have:=Nat.ne_of_beq_eq_false e7
  have:=Nat.ne_of_beq_eq_false e8
  omega
theorem ro:qb 37=[(78,107),(77,115)]:=by decide+kernel
theorem uk{x:ak}(h:eT x=true)(ho:x.op=37):IntKind.u8.wrap x.n≠1∧IntKind.u8.wrap x.n≠2:=by
 unfold eT at h
 rw[ho,ro] at h
 simp only[Bool.and_eq_true] at h
 have:=h.2.2
 simp only[fl,rng,f179] at this
 simp at this
 rw[IntKind.wrap_u8]
 omega
theorem f36_iff{o:Int}(h0:0≤o):f36 o=true↔1≤o∧o≤41:=by
 unfold f36 f67
 simp only[Bool.and_eq_true,Bool.not_eq_true',decide_eq_true_eq,decide_eq_false_iff_not,Bool.and_eq_false_iff]
 omega
theorem f45_sat(hv:MV mI mH mO mS)(hU:mU.length≤1000000)(hp:0≤tP∧tP<mI.length):Sat (f45 tR tP tX tD mI mH mO mE mN mS mU []) (QE mN mU mS.length):=by
 unfold f45
 refine .bind (.idx hp) λx hx=> .cond (λ_=> .pure trivial) λh36=>?_
 have hm:=hv.i x (bY hx)
 have ho:=(f36_iff hm.2).1 (by simpa using h36)
 have hr:=mf hm.1 ho
 rw[f46_eq,bnS]
 refine .bind (uq _ _ _ _ _ _ _ _ _ _ _ hv hU _ (l6 _) _ hr (λe=>hr.b (q8 e).1 (q8 e).2) (uk hm.1)) λr hr=> .cs (λ_ _=> .pure trivial) λz hz=> .pure ?_
 rw[hz] at hr
 exact hr
structure EX(n:Nat)(mN mU:List Int)(r:bj×(List Act)×Int×(List Int)×(List (List Int))×(List Int)):Prop where
 io:Io mN mU r.2.2.2.1 r.2.2.2.2.2 r.2.1
 s:r.2.2.2.2.1.length=n
 e:r.2.2.1≠0→r.2.1=[]
theorem f11_sat(hv:MV mI mH mO mS)(hU:mU.length≤1000000)(r:bj):Sat (f11 mI mH mO mE mN mS mU r) (EX mS.length mN mU):=by
 unfold f11
 refine .bind (P:=EX mS.length mN mU) ?_ λr hr=> .pure hr
 unfold f44_45
 refine .bind (.eq rfl) λb _=> .cond (λ_=> .pure ⟨jq co,rfl,λ_=>rfl⟩) λ_=> .cond (λ_=> .pure ⟨jq co,rfl,λ_=>rfl⟩) λh=>?_
 simp only[Bool.or_eq_false_iff,decide_eq_false_iff_not] at h
 refine .bind (f45_sat _ _ _ _ _ _ _ _ _ _ _ hv hU oM) λr hr=> .cs (λ_ _=> .pure ⟨jq co,rfl,λ_=>rfl⟩) λz hz=> .pure ?_
 rw[hz] at hr
 exact⟨hr.1,hr.2,λh=>absurd rfl h⟩
end
theorem f12_l1_sat(t:ao)(k:Int→Option Bool)(hk:∀a,Sat (k a) λ_=>True):∀(n i:Nat)(a z:Int),z=(i:Int)→i≤100→100<n+i→Sat (f12_l1 t k n a z) λ_=>True
 |0,i,_,z,_,_,h=>oM
 |n+1,i,a,z,hz,hi,h=>by
  subst hz
  rw[f12_l1]
  refine .cond (λh1=>?_) λ_=>hk _
  rw[Bool.and_eq_true,decide_eq_true_eq,decide_eq_true_eq] at h1
  refine .bind (.idx oM) λx _=>?_
  rw[w64 (x:=(i:Int)+1) oM oM]
  exact f12_l1_sat t k hk n (i+1) _ _ (by push_cast;rfl) oM oM
theorem f12_sat(t:ao):Sat (f12 t) λ_=>True:=by
 unfold f12
 exact .letk (λk=>∀a,Sat (k a) λ_=>True) (λa=> .pure trivial) λk hk=>f12_l1_sat t k hk _ 0 _ 0 rfl oM oM
theorem ub(A:List Act):(pt A).length≤A.length:=by
 unfold pt
 rw[List.length_map]
 exact List.length_filter_le _ _
theorem mv_of{t:ao}(hv:VT t):MV t.insns t.handlers t.objs (store t):=
 ⟨hv.hdls,(jf hv).len,hv.sz.sets,λx hx=>⟨by
  have:=hv.fits x hx
  unfold gz at this
  rw[Bool.and_eq_true] at this
  exact this.1,(hv.sz.ops x hx).1⟩⟩
def lo2(x:Int):Int:=IntKind.i64.wrap (BitVec.ofInt IntKind.i64.bits x&&&BitVec.ofInt IntKind.i64.bits 3).toNat
def opv'(o:Int):Int:=IntKind.u8.wrap (9+(Int.tmod o 4))
def mk(x:ak):ak:=bif decide (opv' x.op>11) then ak.mk 2 (lo2 x.d) (lo2 x.a) 0 0 0 0 else ak.mk (opv' x.op) (lo2 x.d) (lo2 x.a) (lo2 x.b) 0 0 0
section
variable(R:Nat→Int)(p:Int)(mI:List ak)(mH:List an)(mO:List Obj)(mE:Int)(mN:List Int)(mS:List (List Int))(mU:List Int)(x:ak)
end
abbrev rz:bj:=bj.mk (λ_=>0) 0 0 0
theorem f34_l1_eq(o:Obj)(v:Int)(r:Option Bool)(hl:o.set_.length<9223372036854775808):∀(n i:Nat)(z:Int),z=(i:Int)→i≤o.set_.length→o.set_.length<n+i→
  f34_l1 o v (λ_=>r) n z=bif (o.set_.drop i).any (λx=>f129 x v) then some true else r
 |0,i,z,_,_,h=>oM
 |n+1,i,z,hz,hi,h=>by
  subst hz
  rw[f34_l1]
  by_cases hh:i<o.set_.length
  ·rw[aH hh,List.any_cons,dcT (by omega:(i:Int)<(o.set_.length:Int)),cdT,aQ hh,bnS,w64 (x:=(i:Int)+1) oM oM,f34_l1_eq o v r hl n (i+1) _ (by push_cast;rfl) oM oM]
   have e:f129 o.set_[i] v=decide (v=IntKind.i64.wrap (o.set_[i]+1)):=by
    unfold f129
    by_cases hv:v=IntKind.i64.wrap (o.set_[i]+1)
    ·rw[dcT hv,dcT hv.symm]
    ·rw[dcF hv,dcF λh=>hv h.symm]
   rw[e]
   cases decide (v=IntKind.i64.wrap (o.set_[i]+1))<;>rfl
  ·rw[dcF (by omega:¬(i:Int)<(o.set_.length:Int)),cdF,List.drop_eq_nil_of_le oM]
   rfl
theorem f34_eq(o:Obj)(v:Int)(hl:o.set_.length<9223372036854775808):f34 o v=some (fits o v):=by
 unfold f34 fits
 cases o.ptr
 ·rfl
 ·rw[Bool.not_true,cdF,cdT,al,f34_l1_eq o v _ hl _ 0 0 rfl (Nat.zero_le _) oM,List.drop_zero]
  cases o.set_.any (λn=>f129 n v)<;>cases decide (v=0)<;>rfl
theorem allL{α:Type}(xs:List α)(F:Nat→Int→Option Bool)(k:Option Bool)(p:α→Bool)(hl:xs.length<9223372036854775808)
  (h0:∀n (i:Nat)(h:i<xs.length),F (n+1) (i:Int)=bif p xs[i] then F n ((i+1:Nat):Int) else some false)
  (h1:∀n,F (n+1) (xs.length:Int)=k):∀(n i:Nat)(z:Int),z=(i:Int)→i≤xs.length→xs.length<n+i→F n z=bif (xs.drop i).all p then k else some false
 |0,i,z,_,_,h=>oM
 |n+1,i,z,hz,hi,h=>by
  subst hz
  by_cases hh:i<xs.length
  ·rw[aH hh,List.all_cons,h0 n i hh,allL xs F k p hl h0 h1 n (i+1) _ rfl oM oM]
   cases p xs[i]<;>rfl
  ·have e:i=xs.length:=oM
   subst e
   rw[h1,List.drop_eq_nil_of_le (Nat.le_refl _)];rfl
theorem tF{α:Type}(xs:List α)(F:Nat→Int→Option Bool)(k:Option Bool)(p:α→Bool)(n:Nat)(hn:n=9223372036854775808)(hl:xs.length<9223372036854775808)
  (h0:∀n (i:Nat)(h:i<xs.length),F (n+1) (i:Int)=bif p xs[i] then F n ((i+1:Nat):Int) else some false)
  (h1:∀n,F (n+1) (xs.length:Int)=k):F n 0=bif xs.all p then k else some false:=by
 rw[allL xs F k p hl h0 h1 n 0 0 rfl (Nat.zero_le _) oM,List.drop_zero]
theorem l8{i n:Nat}(h:i<n):decide ((i:Int)<(n:Int))=true:=dcT oM
theorem l9{n:Nat}:decide ((n:Int)<(n:Int))=false:=dcF oM
theorem w1{i n:Nat}(h:i<n)(hl:n<9223372036854775808):IntKind.i64.wrap ((i:Int)+1)=((i+1:Nat):Int):=by rw[w64 oM oM];push_cast;rfl
structure SzA(t:ao):Prop where
 alts:∀x∈t.selects,∀a∈x.alts,(-9223372036854775808≤a.entry∧a.entry≤9223372036854775807)∧-9223372036854775808≤a.time∧a.time≤9223372036854775807
def szS(L:List Obj):Nat:=(L.map λo=>o.size.toNat).sum
def pos(os:List Obj)(x:eO):Nat:=szS (os.take x.o.toNat)+x.slot.toNat
theorem tE{α:Type}(L:List α):(L.all λ_=>true)=true:=by
 induction L with
 |nil=>rfl
 |cons x L ih=>rw[List.all_cons,ih];rfl
theorem f29_same(S:List (List Int))(hl:S.length<9223372036854775808)(hs:∀r∈S,r.length<9223372036854775808):f29 S S=some true:=by
 unfold f29
 rw[dcT rfl,Bool.not_true,cdF,al,tF S (f29_l1 S S λ_=>some true) (some true) (λ_=>true) _ rfl hl (λn i hi=>by
  have hr:=hs _ (List.getElem_mem hi)
  rw[f29_l1,l8 hi,cdT,al,aQ hi,bnS,bnS,dcT rfl,Bool.not_true,cdF,w1 hi hl,
   tF S[i] (f29_l2 S S (i:Int) λ_=>f29_l1 S S (λ_=>some true) n ((i+1:Nat):Int)) (f29_l1 S S (λ_=>some true) n ((i+1:Nat):Int)) (λ_=>true) _ rfl hr (λm j hj=>by
    rw[f29_l2,aQ hi,bnS,l8 hj,cdT,bnS,aQ hj,bnS,bnS,aQ hj,bnS,dcT rfl,w1 hj hr];rfl) (λm=>by rw[f29_l2,aQ hi,bnS,l9,cdF]),tE]) (λn=>by rw[f29_l1,l9,cdF]),tE]
 rfl
theorem f28_l1_eq(S:List (List Int))(k:List (List Int)→Option (List (List Int)))(hl:S.length<1000000)(hs:∀r∈S,r.length≤1000000000000):∀(n i:Nat)(z:Int),z=(i:Int)→i≤S.length→S.length<n+i→
  f28_l1 S k n z (S.take i++List.replicate (S.length - i) [])=k S
 |0,i,z,_,_,h=>oM
 |n+1,i,z,hz,hi,h=>by
  subst hz
  rw[f28_l1]
  by_cases hh:i<S.length
  ·have hr:=hs _ (List.getElem_mem hh)
   have hL:(S.take i++List.replicate (S.length - i) ([]:List Int)).length=S.length:=by simp;omega
   rw[l8 hh,cdT,aQ hh,bnS]
   unfold f42m
   rw[aQ hh,bnS,bH _ (bm oM (by simp;omega)),bnS,aQ oM,bnS,w1 hh oM,Int.toNat_natCast]
   have e:(S.take i++List.replicate (S.length - i) ([]:List Int)).set i S[i]=S.take (i+1)++List.replicate (S.length - (i+1)) []:=by
    rw[List.set_append_right _ _ (by simp;omega)]
    have e:i - (S.take i).length=0:=by simp;omega
    obtain⟨q,hq⟩:∃q,S.length - i=q+1:=⟨S.length - i - 1,oM⟩
    rw[e,hq,List.replicate_succ,List.set_cons_zero,List.take_succ_eq_append_getElem hh,List.append_assoc,show S.length - (i+1)=q by omega]
    rfl
   rw[e]
   exact f28_l1_eq S k hl hs n (i+1) _ rfl oM oM
  ·have ei:i=S.length:=oM
   rw[ei,l9,cdF,Nat.sub_self,List.replicate_zero,List.append_nil,List.take_length]
theorem f28_eq(mI:List ak)(mH:List an)(mO:List Obj)(mE:Int)(mN:List Int)(S:List (List Int))(mU:List Int)(hI:1≤mI.length)(hl:S.length<1000000)(hs:∀r∈S,r.length≤1000000000000):f28 mI mH mO mE mN S mU=some S:=by
 unfold f28 f47
 rw[dcF (by omega:¬(mI.length:Int)=0),bnS,cdF,bH _ (oG oM oM oM),al]
 have e:=f28_l1_eq S (λl36=>some l36) hl hs (Int.toNat ((List.length S:Int) - 0)+1) 0 0 rfl (Nat.zero_le _) oM
 rw[List.take_zero,List.nil_append,Nat.sub_zero] at e
 rw[Int.toNat_natCast]
 exact e
def I64(v:Int):Prop:= -9223372036854775808≤v∧v≤9223372036854775807
theorem sG(ra n m:Int)(hr:I64 ra)(hn:I64 n)(h1:1≤m)(h2:m≤65536):(decide (ra≥n)&&decide ((IntKind.u64.wrap ((IntKind.u64.wrap ra) - (IntKind.u64.wrap n)))<(IntKind.u64.wrap m)))=decide (n≤ra∧ra<n+m):=by
 obtain⟨r1,r2⟩:=hr
 obtain⟨n1,n2⟩:=hn
 have e:∀v:Int,IntKind.u64.wrap v=v%18446744073709551616:=λv=>by simp[IntKind.wrap,IntKind.signed,IntKind.bits]
 rw[e,e,e,e,←Bool.decide_and]
 refine decide_eq_decide.2 ?_
 constructor
 ·rintro⟨a,b⟩;omega
 ·rintro⟨a,b⟩;omega
def mh(p c:Int)(x:an):Bool:=((decide (x.from_≤p))&&(decide (p<x.to)))&&((decide (c>0))||x.clean)
def fi(p c:Int):List an→Nat→Int
 |[],_=> -1
 |x::r,i=>bif mh p c x then(i:Int) else fi p c r (i+1)
theorem f59_l1_eq(p:Int)(H:List an)(c:Int)(k:Int→Option (Rs ((Nat→Int)×Int×Int×Int)))(hl:H.length<9223372036854775808):∀(n i:Nat)(z:Int),z=(i:Int)→i≤H.length→H.length<n+i→f59_l1 p H c k (λ_=>k (-1)) n z=k (fi p c (H.drop i) i)
 |0,i,z,_,_,h=>oM
 |n+1,i,z,hz,hi,h=>by
  subst hz
  rw[f59_l1]
  by_cases hh:i<H.length
  ·rw[aH hh,fi,l8 hh,cdT,aQ hh,bnS,al,w1 hh hl,f59_l1_eq p H c k hl n (i+1) _ rfl oM oM]
   have e:((decide (H[i].from_≤p)&&decide (p<H[i].to))&&(H[i].clean||decide (c>0)))=mh p c H[i]:=by
    unfold mh
    rw[Bool.or_comm H[i].clean]
   rw[e]
   cases mh p c H[i]<;>rfl
  ·have ei:i=H.length:=oM
   subst ei
   rw[l9,cdF,List.drop_eq_nil_of_le (Nat.le_refl _)];rfl
theorem rp(p c:Int)(H:List an):∀(n i:Nat),i+n=H.length→fi p c (H.drop i) i= -1∨∃x,0≤fi p c (H.drop i) i∧idx H (fi p c (H.drop i) i)=some x
 |0,i,h=>by
  rw[List.drop_eq_nil_of_le oM];exact .inl rfl
 |n+1,i,h=>by
  have hh:i<H.length:=oM
  rw[aH hh,fi]
  cases mh p c H[i]
  ·exact rp p c H n (i+1) oM
  ·exact .inr ⟨H[i],by rw[cdT];omega,by rw[cdT,aQ hh]⟩
theorem ur:qb 33=[(78,120)]:=by decide+kernel
theorem ul{x:ak}(h:eT x=true)(ho:x.op=33):1≤x.n:=by
 unfold eT at h
 rw[ho,ur] at h
 simp only[Bool.and_eq_true] at h
 have:=h.2.2
 simp only[fl,rng,f179] at this
 simp at this
 omega
section
variable(t:ao)(hl:t.insns.length≤65536)(hH:t.handlers.length≤4096)(tR:Nat→Int)(tP tX tD:Int)(hp:0≤tP∧tP<(t.insns.length:Int))(mO:List Obj)(N:List Int)(S:List (List Int))(U:List Int)(x:ak)(hx:Rg x)
include hl hH hp hx
end
section
variable(t:ao)(hl:t.insns.length≤65536)(hH:t.handlers.length≤4096)(tR:Nat→Int)(tP tX tD:Int)(hp:0≤tP∧tP<(t.insns.length:Int))(mO:List Obj)(mE:Int)(N:List Int)(S:List (List Int))(U:List Int)(x:ak)(hx:Rg x)
include hl hp hx
end
theorem tg(v:Int)(h:I64 v):(BitVec.ofInt 64 v).msb=decide (v<0):=by
 obtain⟨h1,h2⟩:=h
 rw[BitVec.msb_eq_decide,BitVec.toNat_ofInt]
 refine decide_eq_decide.2 ?_
 omega
theorem qB(x:BitVec 64):decide (IntKind.i64.wrap (x.toNat:Int)≥0)= !x.msb:=by
 have:=x.isLt
 rw[BitVec.msb_eq_decide,IntKind.wrap_i64,←decide_not]
 refine decide_eq_decide.2 ?_
 omega
theorem sf(a b:Int)(ha:I64 a)(hb:I64 b):decide (IntKind.i64.wrap (BitVec.ofInt IntKind.i64.bits a^^^BitVec.ofInt IntKind.i64.bits b).toNat≥0)=(decide (a<0)==decide (b<0)):=by
 refine(qB _).trans ?_
 show(!(BitVec.ofInt 64 a^^^BitVec.ofInt 64 b).msb)=_
 rw[BitVec.msb_xor,tg a ha,tg b hb]
 cases decide (a<0)<;>cases decide (b<0)<;>rfl
theorem jI(a b:Int)(hb:I64 b)(h0:b≠0):I64 (Int.tmod a b):=by
 have h:=Int.natAbs_tmod a b
 have h2:a.natAbs%b.natAbs<b.natAbs:=Nat.mod_lt _ oM
 obtain⟨h3,h4⟩:=hb
 constructor<;>omega
theorem ug(a b:Int)(hb:I64 b)(h0:b≠0):f187 a b=f143 a b:=by
 have hn:nz b=true:=by simp[nz,h0]
 unfold f187 f143
 rw[hn]
 have hx:=sf (Int.tmod a b) b (jI a b hb h0) hb
 show(bif (decide (Int.tmod a b=0)||decide (IntKind.i64.wrap (BitVec.ofInt IntKind.i64.bits (Int.tmod a b)^^^BitVec.ofInt IntKind.i64.bits b).toNat≥0)) then some (Int.tmod a b) else some (IntKind.i64.wrap (Int.tmod a b+b)))=(bif ((!decide (Int.tmod a b=0))&&(!((decide (Int.tmod a b<0))==(decide (b<0))))) then some (IntKind.i64.wrap (Int.tmod a b+b)) else some (Int.tmod a b))
 rw[hx]
 cases decide (Int.tmod a b=0)<;>cases (decide (Int.tmod a b<0)==decide (b<0))<;>rfl
theorem nN(k:Nat)(hk:k<18)(a b:Int)(ha:I64 a)(hb:I64 b):f132 ((k:Int)+1) a b=f98 ((k:Int)+1) a b:=by
 have hdiv:b= -1→Int.tdiv a b=0 - a:=λe=>by rw[e,Int.tdiv_neg,Int.tdiv_one];omega
 have hmod:b= -1→Int.tmod a b=0:=λe=>by rw[e,Int.tmod_neg,Int.tmod_one]
 have hm:=ug a b hb
 have hn:b≠0→nz b=true:=λh0=>by simp[nz,h0]
 obtain⟨a1,a2⟩:=ha
 match k,hk with
 |0,_=>rfl
 |1,_=>rfl
 |2,_=>rfl
 |3,_=>
  show(bif decide (b=0) then some (0,false) else Option.bind (f185 a b) λr=>some (r,true))=(bif decide (b=0) then some (0,false) else bif (decide (b= -1)&&true) then some (IntKind.i64.wrap (0 - a),true) else bif decide (b= -1) then some (0,true) else ay (nz b) (some (IntKind.i64.wrap (Int.tdiv a b),true)))
  by_cases h0:b=0
  ·rw[dcT h0];rfl
  ·rw[dcF h0,cdF,cdF,f185,hn h0]
   by_cases h1:b= -1
   ·rw[dcT h1,hdiv h1];rfl
   ·rw[dcF h1];rfl
 |4,_=>
  show(bif decide (b=0) then some (0,false) else Option.bind (f186 a b) λr=>some (r,true))=(bif decide (b=0) then some (0,false) else bif (decide (b= -1)&&false) then some (IntKind.i64.wrap (0 - a),true) else bif decide (b= -1) then some (0,true) else ay (nz b) (some (Int.tmod a b,true)))
  by_cases h0:b=0
  ·rw[dcT h0];rfl
  ·rw[dcF h0,cdF,cdF,f186,hn h0]
   by_cases h1:b= -1
   ·rw[dcT h1,hmod h1];rfl
   ·rw[dcF h1];rfl
 |5,_=>
  show(bif decide (b=0) then some (0,false) else Option.bind (f187 a b) λr=>some (r,true))=(bif decide (b=0) then some (0,false) else bif (decide (b= -1)&&false) then some (IntKind.i64.wrap (0 - a),true) else bif decide (b= -1) then some (0,true) else Option.bind (f143 a b) λr=>some (r,true))
  by_cases h0:b=0
  ·rw[dcT h0];rfl
  ·rw[dcF h0,cdF,cdF,hm h0]
   by_cases h1:b= -1
   ·rw[dcT h1,Bool.and_false,cdF,cdT]
    unfold f143
    rw[hn h0,hmod h1];rfl
   ·rw[dcF h1];rfl
 |6,_=>rfl
 |7,_=>rfl
 |8,_=>rfl
 |9,_=>rfl
 |10,_=>rfl
 |11,_=>rfl
 |12,_=>rfl
 |13,_=>rfl
 |14,_=>rfl
 |15,_=>rfl
 |16,_=>
  show some (f199 a b,true)=(bif decide (a<0) then some (IntKind.i64.wrap (0 - a),true) else some (a,true))
  unfold f199
  by_cases h:a<0
  ·rw[dcT h,cdT]
   congr 2
   split
   ·rfl
   ·rw[IntKind.wrap_i64] at*;omega
  ·rw[dcF h,cdF,if_neg (by rw[w64 oM oM];omega)]
 |17,_=>rfl
 |n+18,h=>omega
inductive SpotI(t:ao)(tR:Nat→Int)(x:ak)(S:List (List Int)):Prop where
 |bad5 (h:x.op=5∨x.op=6) (hc:(decide (tR (Int.toNat x.a)<0)||decide (tR (Int.toNat x.a)≥x.b))=true)
 |at5 (h:x.op=5∨x.op=6) (hc:(decide (tR (Int.toNat x.a)<0)||decide (tR (Int.toNat x.a)≥x.b))=false) (y:Obj) (row:List Int) (v:Int) (h1:idx t.objs x.n=some y) (h2:idx S x.n=some row) (h3:idx row (IntKind.i64.wrap (x.m+tR (Int.toNat x.a)))=some v) (h4:0≤x.n∧x.n<(S.length:Int)) (h5:0≤IntKind.i64.wrap (x.m+tR (Int.toNat x.a))∧IntKind.i64.wrap (x.m+tR (Int.toNat x.a))<(row.length:Int))
 |bad7 (h:x.op=7∨x.op=8) (hc:(decide (tR (Int.toNat x.a)<1)||decide (tR (Int.toNat x.a)>(t.objs.length:Int)))=true)
 |at7 (h:x.op=7∨x.op=8) (hc:(decide (tR (Int.toNat x.a)<1)||decide (tR (Int.toNat x.a)>(t.objs.length:Int)))=false) (y:Obj) (row:List Int) (v:Int) (h1:idx t.objs (IntKind.i64.wrap (tR (Int.toNat x.a) - 1))=some y) (h2:idx S (IntKind.i64.wrap (tR (Int.toNat x.a) - 1))=some row) (h3:idx row 0=some v) (h4:0≤IntKind.i64.wrap (tR (Int.toNat x.a) - 1)∧IntKind.i64.wrap (tR (Int.toNat x.a) - 1)<(S.length:Int)) (h5:(0:Int)<(row.length:Int))
 |at3 (h:x.op=3∨x.op=4) (y:Obj) (row:List Int) (v:Int) (h1:idx t.objs x.n=some y) (h2:idx S x.n=some row) (h3:idx row x.m=some v) (h4:0≤x.n∧x.n<(S.length:Int)) (h5:0≤x.m∧x.m<(row.length:Int))
theorem f145_l1_eq(L:List Int)(v:Int)(hl:L.length<9223372036854775808):∀(n i:Nat)(z:Int),z=(i:Int)→i≤L.length→L.length<n+i→∃r,f145_l1 L v (λ_=>some (-1)) n z=some r∧decide (r≥0)=(L.drop i).any λn=>decide (v=n)
 |0,i,z,_,_,h=>oM
 |n+1,i,z,hz,hi,h=>by
  subst hz
  rw[f145_l1]
  by_cases hh:i<L.length
  ·rw[aH hh,l8 hh,cdT,aQ hh,bnS,List.any_cons,w1 hh hl]
   cases hc:decide (v=L[i])
   ·rw[cdF,Bool.false_or]
    exact f145_l1_eq L v hl n (i+1) _ rfl oM oM
   ·exact⟨_,rfl,by rw[Bool.true_or];exact dcT oM⟩
  ·have ei:i=L.length:=oM
   subst ei
   rw[l9,cdF,List.drop_eq_nil_of_le (Nat.le_refl _)]
   exact⟨_,rfl,rfl⟩
theorem f104_eq(L:List Int)(v:Int)(hl:L.length<9223372036854775808):f104 L v=some (L.any λn=>decide (v=n)):=by
 unfold f104 f145
 obtain⟨r,h1,h2⟩:=f145_l1_eq L v hl (Int.toNat ((List.length L:Int) - 0)+1) 0 0 rfl (Nat.zero_le _) oM
 rw[al,h1,bnS,h2,List.drop_zero]
theorem f63_eq(o:Obj)(v:Int)(hl:o.set_.length<9223372036854775808)(hs:∀n∈o.set_,0≤n∧n<9223372036854775807)(hv:I64 v):f63 o v=some (fits o v):=by
 obtain⟨v1,v2⟩:=hv
 unfold f63 fits
 cases o.ptr
 ·rfl
 ·rw[cdT,cdT]
  by_cases h0:v=0
  ·rw[dcT h0];rfl
  ·rw[dcF h0,cdF,f104_eq _ _ hl]
   simp only[bnS]
   congr 1
   rw[Bool.false_or]
   by_cases hp:v>0
   ·rw[dcT hp,Bool.and_true,w64 oM oM,Bool.eq_iff_iff,List.any_eq_true,List.any_eq_true]
    constructor
    ·rintro⟨n,hn,h⟩
     refine⟨n,hn,?_⟩
     have:=hs n hn
     have h:=of_decide_eq_true h
     exact dcT (by rw[w64 oM oM];omega)
    ·rintro⟨n,hn,h⟩
     refine⟨n,hn,?_⟩
     have:=hs n hn
     have h:=of_decide_eq_true h
     rw[w64 oM oM] at h
     exact dcT oM
   ·rw[dcF hp,Bool.and_false]
    symm
    rw[List.any_eq_false]
    intro n hn h
    have:=hs n hn
    have h:=of_decide_eq_true h
    rw[w64 oM oM] at h
    omega
section
variable(t:ao)(hl:t.insns.length≤65536)(tR:Nat→Int)(tP tX tD:Int)(hp:0≤tP∧tP<(t.insns.length:Int))(mH:List an)(mE:Int)(N:List Int)(S:List (List Int))(U:List Int)
include hl hp
end
section
variable(m:Mem)(r:bj)(x:ak)(h1:f31 m.t r=true)(h2:idx m.t.insns r.pc=some x)(h3:f50 x.op=true)
include h1 h2 h3
end
theorem mC(v:Int):I64 (IntKind.i64.wrap v):=by
 unfold I64
 rw[IntKind.wrap_i64]
 omega
theorem sW(b:Bool):I64 (f144 b):=by
 cases b
 ·show I64 0;unfold I64;omega
 ·show I64 1;unfold I64;omega
theorem qh(k:Nat)(hk:k<18)(a b:Int)(ha:I64 a)(hb:I64 b)(z:Int×Bool)(h:f98 ((k:Int)+1) a b=some z):I64 z.1:=by
 have h0:I64 0:=by unfold I64;omega
 have hw:∀(v:Int)(c:Bool),some (IntKind.i64.wrap v,c)=some z→I64 z.1:=λv c e=>by
  have:=inS e
  subst this
  exact mC v
 have hbit:∀(v:Bool)(c:Bool),some (f144 v,c)=some z→I64 z.1:=λv c e=>by
  have:=inS e
  subst this
  exact sW v
 rw[←nN k hk a b ha hb] at h
 match k,hk with
 |0,_=>exact hw _ _ h
 |1,_=>exact hw _ _ h
 |2,_=>exact hw _ _ h
 |3,_=>
  have h:(bif decide (b=0) then some (0,false) else Option.bind (f185 a b) λr=>some (r,true))=some z:=h
  by_cases e:b=0
  ·rw[dcT e] at h
   have:=inS h
   subst this;exact h0
  ·rw[dcF e,cdF,f185,show nz b=true by simp[nz,e]] at h
   exact hw _ _ h
 |4,_=>
  have h:(bif decide (b=0) then some (0,false) else Option.bind (f186 a b) λr=>some (r,true))=some z:=h
  by_cases e:b=0
  ·rw[dcT e] at h
   have:=inS h
   subst this;exact h0
  ·rw[dcF e,cdF,f186,show nz b=true by simp[nz,e]] at h
   have:=inS h
   subst this;exact jI a b hb e
 |5,_=>
  have h:(bif decide (b=0) then some (0,false) else Option.bind (f187 a b) λr=>some (r,true))=some z:=h
  by_cases e:b=0
  ·rw[dcT e] at h
   have:=inS h
   subst this;exact h0
  ·rw[dcF e,cdF,f187,show nz b=true by simp[nz,e]] at h
   cases hc:(decide ((Int.tmod a b)=0))||(decide ((IntKind.i64.wrap (BitVec.ofInt IntKind.i64.bits (Int.tmod a b)^^^BitVec.ofInt IntKind.i64.bits b).toNat)≥0))
   ·rw[hc] at h;exact hw _ _ h
   ·rw[hc] at h
    have:=inS h
    subst this;exact jI a b hb e
 |6,_=>exact hbit _ _ h
 |7,_=>exact hbit _ _ h
 |8,_=>exact hbit _ _ h
 |9,_=>exact hbit _ _ h
 |10,_=>exact hbit _ _ h
 |11,_=>exact hbit _ _ h
 |12,_=>exact hw _ _ h
 |13,_=>exact hw _ _ h
 |14,_=>exact hw _ _ h
 |15,_=>exact hw _ _ h
 |16,_=>
  have h:some (f199 a b,true)=some z:=h
  have:=inS h
  subst this
  show I64 (f199 a b)
  unfold f199
  split
  ·exact mC _
  ·exact ha
 |17,_=>exact hw _ _ h
 |n+18,h=>omega
theorem eR{tR:Nat→Int}(h:∀j,I64 (tR j))(d:Nat)(v:Int)(hv:I64 v):∀j,I64 (c8 tR d v j):=λj=>by
 unfold c8
 cases Nat.beq j d
 ·exact h j
 ·exact hv
def RI(R:Nat→Int):Prop:=∀j,I64 (R j)
structure KS(os:List Obj)(S:List (List Int)):Prop where
 sh:Shape os S
 c:∀r∈S,∀v∈r,I64 v
theorem KS.set{os:List Obj}{S:List (List Int)}(h:KS os S){o k:Int}{x:List Int}{v:Int}(h1:idx S o=some x)(hv:I64 v):KS os (S.set o.toNat (x.set k.toNat v)):=by
 constructor
 ·have:=h.sh.set o.toNat k.toNat v
  have e:S[o.toNat]? =some x:=bB h1
  rw[e] at this
  exact this
 ·intro r hr w hw
  rcases List.mem_or_eq_of_mem_set hr with hr|rfl
  ·exact h.c r hr w hw
  ·rcases List.mem_or_eq_of_mem_set hw with hw|rfl
   ·exact h.c x (bY h1) w hw
   ·exact hv
theorem jx:RI λ_=>0:=λ_=>by show I64 0;unfold I64;omega
section
variable(tR:Nat→Int)(tP:Int)(tX:Int)(tD:Int)(mI:List ak)(mH:List an)(mO:List Obj)(mE:Int)(mN:List Int)(mS:List (List Int))(mU:List Int)
abbrev QR4:Rs ((Nat→Int)×Int×Int×Int)→Prop:=OKq λz=>RI z.1
abbrev QR5:Rs ((Nat→Int)×Int×Int×Int×(List Act))→Prop:=OKq λz=>RI z.1
theorem f131_R(hR:RI tR)(tA:List Act):Sat (f131 tR tP tX tD mI mH mO mE mN mS mU tA) QR4:=by
 unfold f131
 exact .cond (λ_=> .pure trivial) (λ_=> .pure hR)
theorem f59_R(hl:mH.length≤4096)(tA:List Act)(c1:Int):Sat (f59 tR tP tX tD mI mH mO mE mN mS mU tA c1) QR4:=by
 unfold f59
 refine .letk (λk=>∀t:Int,t<mH.length→Sat (k t) QR4) (λt ht=>?_) λk63 h63=>?_
 ·refine .cond (λ_=> .pure trivial) λh0=>?_
  refine .bind (.idx (by have:=of_decide_eq_false h0;omega)) λx _=>?_
  refine .letk (λk=>∀t,Sat (k t) QR4) (λt=>?_) λk hk=>?_
  ·exact .cond (λ_=> .pure trivial) (λ_=> .pure jx)
  ·exact .cond (λ_=>hk _) (λ_=>hk _)
 ·rw[al]
  exact f59_l1_sat tP mH c1 _ _ h63 (h63 _ oM) oM _ 0 0 rfl (Nat.zero_le _) oM
theorem f56_R(hl:mH.length≤4096)(n1:Int):Sat (f56 tR tP tX tD mI mH mO mE mN mS mU [] n1) QR5:=by
 unfold f56
 refine .bind (f59_R _ _ _ _ _ _ _ _ _ _ _ hl _ _) λr hr=>?_
 refine .cs (λe _=> .pure trivial) λz hz=>?_
 rw[hz] at hr
 exact .guard (bm oM sM) (.pure hr)
theorem f81_R(hR:RI tR)(hC:∀r∈mS,∀v∈r,I64 v)(hS:mS.length=mO.length)(tA:List Act)(x:ak)(hx:Rg x):Sat (f81 tR tP tX tD mI mH mO mE mN mS mU tA x) QR4:=by
 unfold f81
 refine .letk (λk=>Sat (k ()) QR4) (.pure trivial) λk28 h28=>?_
 refine .letk (λk=>∀t o i a b c d e,Pl mS o i→Sat (k t o i a b c d e) QR4) (λt o i a b c d e hp=>?_) λk37 h37=>?_
 ·obtain⟨x,h1,v,h2⟩:=hp
  refine .bind (.eq h1) λ_ e1=>?_
  rw[e1]
  refine .bind (.eq h2) λ_ e2=> .guard hx.d (.bind (f131_R _ _ _ _ _ _ _ _ _ _ _ (eR hR _ _ (by rw[e2];exact hC _ (bY h1) _ (bY h2))) _) λr hr=>?_)
  exact .cs (λ_ _=> .pure trivial) (λz hz=> .pure (by rw[hz] at hr;exact hr))
 ·refine .guard hx.a (.letk (λk=>∀o i,Sat (k o i) QR4) (λo i=>?_) λk41 h41=>?_)
  ·rw[al]
   refine .letk (λk=>Pl mS o i→Sat (k ()) QR4) (λhp=>?_) λk56 h56=>?_
   ·obtain⟨x,h1,v,h2⟩:=id hp
    have:=bX h1
    refine .bind (.idx oM) λy _=>h37 _ _ _ _ _ _ _ _ hp
   ·refine .bind (kX mS o i) λb hb=> .cond (λ_=>h28) λh0=>?_
    have hp:=hb h0
    obtain⟨x,h1,v,h2⟩:=id hp
    refine .bind (.eq h1) λ_ e1=>?_
    rw[e1]
    exact .bind (.eq h2) λ_ _=>h56 hp
  ·refine .letk (λk=>∀b,Sat (k b) QR4) (λb=>?_) λk43 h43=> .cond (λ_=>h43 _) (λ_=>h43 _)
   refine .cond (λ_=> .cond (λ_=>h28) λ_=>h41 _ _) λ_=>?_
   refine .letk (λk=>∀b,Sat (k b) QR4) (λb=>?_) λk49 h49=> .cond (λ_=>h49 _) (λ_=>h49 _)
   exact .cond (λ_=> .cond (λ_=>h28) λ_=>h41 _ _) λ_=>h41 _ _
abbrev QK:Rs ((Nat→Int)×Int×Int×Int×(List (List Int)))→Prop:=OKq λz=>RI z.1∧KS mO z.2.2.2.2
theorem f82_R(hR:RI tR)(hK:KS mO mS)(hO:∀o∈mO,o.set_.length<9223372036854775808)(tA:List Act)(x:ak)(hx:Rg x):Sat (f82 tR tP tX tD mI mH mO mE mN mS mU tA x) (QK mO):=by
 have hS:=hK.sh.len
 unfold f82
 refine .guard hx.d (.letk (λk=>∀v,I64 v→Sat (k v) (QK mO)) (λv46 h46=>?_) λk hk=>?_)
 ·refine .letk (λk=>Sat (k ()) (QK mO)) (.pure trivial) λk50 h50=>?_
  refine .letk (λk=>∀t o i a b c d e,t∈mO→Pl mS o i→Sat (k t o i a b c d e) (QK mO)) (λt o i a b c d e ht hp=>?_) λk59 h59=>?_
  ·refine .bind (f63_sat t v46 (hO t ht)) λr _=> .cond (λ_=> .pure trivial) λ_=>?_
   refine .bind (f131_R _ _ _ _ _ _ _ _ _ _ _ hR _) λr hr=> .cs (λ_ _=> .pure trivial) λz hz=>?_
   rw[hz] at hr
   obtain⟨x,h1,v,h2⟩:=hp
   refine .bind (.eq h1) λ_ e1=>?_
   rw[e1]
   exact .bind (.eq h2) λ_ e2=> .pure ⟨hr,hK.set h1 h46⟩
  ·refine .guard hx.a (.letk (λk=>∀o i,Sat (k o i) (QK mO)) (λo i=>?_) λk41 h41=>?_)
   ·rw[al]
    refine .letk (λk=>Pl mS o i→Sat (k ()) (QK mO)) (λhp=>?_) λk56 h56=>?_
    ·obtain⟨x,h1,v,h2⟩:=id hp
     have:=bX h1
     refine .bind (.idx oM) λy hy=>h59 _ _ _ _ _ _ _ _ (bY hy) hp
    ·refine .bind (kX mS o i) λb hb=> .cond (λ_=>h50) λh0=>?_
     have hp:=hb h0
     obtain⟨x,h1,v,h2⟩:=id hp
     refine .bind (.eq h1) λ_ e1=>?_
     rw[e1]
     exact .bind (.eq h2) λ_ _=>h56 hp
   ·refine .letk (λk=>∀b,Sat (k b) (QK mO)) (λb=>?_) λk43 h43=> .cond (λ_=>h43 _) (λ_=>h43 _)
    refine .cond (λ_=> .cond (λ_=>h50) λ_=>h41 _ _) λ_=>?_
    refine .letk (λk=>∀b,Sat (k b) (QK mO)) (λb=>?_) λk49 h49=> .cond (λ_=>h49 _) (λ_=>h49 _)
    exact .cond (λ_=> .cond (λ_=>h50) λ_=>h41 _ _) λ_=>h41 _ _
 ·exact .cond (λ_=> .guard hx.a (hk _ (hR _))) (λ_=>hk _ (hR _))
theorem f83_R(hR:RI tR)(tA:List Act)(x:ak)(hx:Rg x):Sat (f83 tR tP tX tD mI mH mO mE mN mS mU tA x) QR4:=by
 unfold f83
 refine .guard hx.a (.cond (λ_=> .pure hR) λ_=>?_)
 refine .letk (λk=>∀b,Sat (k b) QR4) (λb=>?_) λk hk=> .cond (λ_=>hk _) (λ_=> .cond (λ_=>hk _) λ_=>hk _)
 exact .cond (λ_=> .pure hR) λ_=> .bind (f131_R _ _ _ _ _ _ _ _ _ _ _ hR _) λr hr=> .cs (λ_ _=> .pure trivial) (λz hz=> .pure (by rw[hz] at hr;exact hr))
theorem f84_R(hR:RI tR)(hl:mH.length≤4096)(x:ak)(hx:Rg x):Sat (f84 tR tP tX tD mI mH mO mE mN mS mU [] x) QR5:=by
 unfold f84
 refine .guard hx.a (.cond (λ_=>?_) λ_=>?_)
 ·exact .bind (f56_R _ _ _ _ _ _ _ _ _ _ _ hl _) λr hr=> .cs (λ_ _=> .pure trivial) (λz hz=> .pure (by rw[hz] at hr;exact hr))
 ·exact .bind (f131_R _ _ _ _ _ _ _ _ _ _ _ hR _) λr hr=> .cs (λ_ _=> .pure trivial) (λz hz=> .pure (by rw[hz] at hr;exact hr))
theorem f85_R(hR:RI tR)(hl:mH.length≤4096)(x:ak)(hx:Rg x):Sat (f85 tR tP tX tD mI mH mO mE mN mS mU [] x) QR5:=by
 unfold f85
 refine .guard hx.a (.cond (λ_=>?_) λ_=> .cond (λ_=>?_) λ_=> .cond (λ_=> .pure trivial) λ_=> .cond (λ_=>?_) λ_=>?_)
 ·exact .bind (f56_R _ _ _ _ _ _ _ _ _ _ _ hl _) λr hr=> .cs (λ_ _=> .pure trivial) (λz hz=> .pure (by rw[hz] at hr;exact hr))
 ·exact .bind (f131_R _ _ _ _ _ _ _ _ _ _ _ hR _) λr hr=> .cs (λ_ _=> .pure trivial) (λz hz=> .pure (by rw[hz] at hr;exact hr))
 ·exact .bind (f59_R _ _ _ _ _ _ _ _ _ _ _ hl _ _) λr hr=> .cs (λ_ _=> .pure trivial) (λz hz=> .pure (by rw[hz] at hr;exact hr))
 ·exact .bind (f56_R _ _ _ _ _ _ _ _ _ _ _ hl _) λr hr=> .cs (λ_ _=> .pure trivial) (λz hz=> .pure (by rw[hz] at hr;exact hr))
abbrev QR7:Rs ((Nat→Int)×Int×Int×Int×(List Int)×(List Int)×(List Act))→Prop:=OKq λz=>RI z.1
theorem f86_R(hR:RI tR)(hN:∀v∈mN,I64 v)(hl:mH.length≤4096)(x:ak)(hx:Rg x)(hU:mU.length≤1000000):Sat (f86 tR tP tX tD mI mH mO mE mN mS mU [] x) QR7:=by
 unfold f86
 refine .cond (λh37=>?_) λ_=> .cond (λ_=>?_) λ_=> .cond (λh0=>?_) λh0=>?_
 ·refine .bind (f131_R _ _ _ _ _ _ _ _ _ _ _ hR _) λr hr=> .cs (λ_ _=> .pure trivial) (λz hz=>?_)
  rw[hz] at hr
  exact .letk (λk=>∀c,Sat (k c) QR7) (λc=> .guard (bm oM sM) (.pure hr)) λk hk=> .cond (λ_=>hk _) (λ_=>hk _)
 ·refine .guard hx.a (.bind (f131_R _ _ _ _ _ _ _ _ _ _ _ hR _) λr hr=> .cs (λ_ _=> .pure trivial) λz hz=>?_)
  rw[hz] at hr
  exact .guard (bm oM (by simp;omega)) (.guard (bm oM sM) (.pure hr))
 ·exact .bind (f56_R _ _ _ _ _ _ _ _ _ _ _ hl _) λr hr=> .cs (λ_ _=> .pure trivial) (λz hz=> .pure (by rw[hz] at hr;exact hr))
 ·have h0:=of_decide_eq_false h0
  refine .bind (f131_R _ _ _ _ _ _ _ _ _ _ _ hR _) λr hr=> .cs (λ_ _=> .pure trivial) (λz hz=>?_)
  rw[hz] at hr
  obtain⟨v,N,rfl⟩:∃v N,mN=v::N:=by
   cases mN with
   |nil=>exact absurd rfl h0
   |cons v N=>exact⟨v,N,rfl⟩
  have e:idx (v::N) 0=some v:=rfl
  refine .bind (.eq e) λw hw=> .guard hx.d (.bind (.eq e) λy hy=> .guard (bm oM sM) (.guard (by simp[dp];omega) (.pure ?_)))
  exact eR hr _ _ (by rw[hw];exact hN v List.mem_cons_self)
theorem f87_R(hR:RI tR)(hX:I64 tX)(tA:List Act)(x:ak)(hn:I64 x.n)(hx:Rg x):Sat (f87 tR tP tX tD mI mH mO mE mN mS mU tA x) QR4:=by
 unfold f87
 refine .letk (λk=>∀R d,RI R→Sat (k R d) QR4) (λR d hR=>?_) λk hk=>?_
 ·refine .cond (λ_=> .pure trivial) λ_=> .bind (f131_R _ _ _ _ _ _ _ _ _ _ _ hR _) λr hr=> .cs (λ_ _=> .pure trivial) (λz hz=> .pure (by rw[hz] at hr;exact hr))
 ·exact .cond (λ_=> .guard hx.d (hk _ _ (eR hR _ _ hn))) λ_=> .cond (λ_=> .guard hx.a (.guard hx.d (hk _ _ (eR hR _ _ (hR _))))) λ_=> .cond (λ_=> .guard hx.d (hk _ _ (eR hR _ _ hX))) λ_=> .cond (λ_=>hk _ _ hR) λ_=> .cond (λ_=>hk _ _ hR) (λ_=>hk _ _ hR)
theorem f88_R(hR:RI tR)(tA:List Act)(x:ak)(hx:Rg x)(ho:9≤x.op∧x.op≤26):Sat (f88 tR tP tX tD mI mH mO mE mN mS mU tA x) QR4:=by
 obtain⟨k,hk⟩:∃k:Nat,x.op=(k:Int)+9:=⟨(x.op - 9).toNat,oM⟩
 have hk18:k<18:=oM
 have hb:=hx.b oM oM
 have e1:IntKind.u8.wrap (1+IntKind.u8.wrap (x.op - 9))=(k:Int)+1:=by
  rw[hk]
  have e:∀v:Int,IntKind.u8.wrap v=v%256:=λv=>by simp[IntKind.wrap,IntKind.signed,IntKind.bits]
  rw[e,e];omega
 unfold f88
 rw[e1]
 refine .guard hx.a (.guard hb (.bind (P:=λz=>I64 z.1) ?_ λz hz=> .cond (λ_=> .pure trivial) λ_=> .guard hx.d ?_))
 ·obtain⟨z,h1,_⟩:=f132_sat ((k:Int)+1) (tR (Int.toNat x.a)) (tR (Int.toNat x.b))
  refine⟨z,h1,qh k hk18 _ _ (hR (Int.toNat x.a)) (hR (Int.toNat x.b)) z ?_⟩
  rw[←nN k hk18 _ _ (hR (Int.toNat x.a)) (hR (Int.toNat x.b))];exact h1
 ·exact .bind (f131_R _ _ _ _ _ _ _ _ _ _ _ (eR hR _ _ hz) _) λr hr=> .cs (λ_ _=> .pure trivial) (λz hz=> .pure (by rw[hz] at hr;exact hr))
abbrev QE8:Rs Z8→Prop:=OKq λz=>RI z.1∧KS mO z.2.2.2.2.2.1
theorem sE:∀k:Nat,k<41→mth (((k+1:Nat):Int))≠88∨(9≤k+1∧k+1≤26):=by decide+kernel
theorem fm_R(hv:MV mI mH mO mS)(hR:RI tR)(hX:I64 tX)(hK:KS mO mS)(hN:∀v∈mN,I64 v)(hU:mU.length≤1000000)(x:ak)(hx:Rg x)(hop:1≤x.op∧x.op≤41)(hn:I64 x.n):
  Sat (fm (mth x.op) tR tP tX tD mI mH mO mE mN mS mU [] x) (QE8 mO):=by
 have hr:=l6 x.op
 have h88:mth x.op=88→9≤x.op∧x.op≤26:=λh=>by
  obtain⟨k,hk⟩:∃k:Nat,x.op=((k+1:Nat):Int):=⟨(x.op - 1).toNat,oM⟩
  rw[hk] at h
  have:=sE k oM
  omega
 generalize mth x.op=n at hr h88
 unfold fm
 refine .cond (λ_=>?_) λe1=> .cond (λ_=>?_) λe2=> .cond (λ_=>?_) λe3=> .cond (λ_=>?_) λe4=> .cond (λ_=>?_) λe5=> .cond (λ_=>?_) λe6=> .cond (λ_=>?_) λe7=> .cond (λe=>?_) λe8=>?_
 ·exact .bind (f81_R _ _ _ _ _ _ _ _ _ _ _ hR hK.c hv.s _ _ hx) λr hr=> .pure (by cases r<;>first|trivial|exact⟨hr,hK⟩)
 ·exact .bind (f82_R _ _ _ _ _ _ _ _ _ _ _ hR hK hv.o _ _ hx) λr hr=> .pure (by cases r<;>first|trivial|exact hr)
 ·exact .bind (f83_R _ _ _ _ _ _ _ _ _ _ _ hR _ _ hx) λr hr=> .pure (by cases r<;>first|trivial|exact⟨hr,hK⟩)
 ·exact .bind (f84_R _ _ _ _ _ _ _ _ _ _ _ hR hv.h _ hx) λr hr=> .pure (by cases r<;>first|trivial|exact⟨hr,hK⟩)
 ·exact .bind (f85_R _ _ _ _ _ _ _ _ _ _ _ hR hv.h _ hx) λr hr=> .pure (by cases r<;>first|trivial|exact⟨hr,hK⟩)
 ·exact .bind (f86_R _ _ _ _ _ _ _ _ _ _ _ hR hN hv.h _ hx hU) λr hr=> .pure (by cases r<;>first|trivial|exact⟨hr,hK⟩)
 ·exact .bind (f87_R _ _ _ _ _ _ _ _ _ _ _ hR hX _ _ hn hx) λr hr=> .pure (by cases r<;>first|trivial|exact⟨hr,hK⟩)
 ·exact .bind (f88_R _ _ _ _ _ _ _ _ _ _ _ hR _ _ hx (h88 (by simpa using e))) λr hr=> .pure (by cases r<;>first|trivial|exact⟨hr,hK⟩)
 ·exfalso
  have:=Nat.ne_of_beq_eq_false e1
  have:=Nat.ne_of_beq_eq_false e2
  have:=Nat.ne_of_beq_eq_false e3
  have:=Nat.ne_of_beq_eq_false e4
  have:=Nat.ne_of_beq_eq_false e5
  have:=Nat.ne_of_beq_eq_false e6
  have:=Nat.ne_of_beq_eq_false e7
  have:=Nat.ne_of_beq_eq_false e8
  omega
theorem f45_R(hv:MV mI mH mO mS)(hn:∀x∈mI,I64 x.n)(hR:RI tR)(hX:I64 tX)(hK:KS mO mS)(hN:∀v∈mN,I64 v)(hU:mU.length≤1000000)(hp:0≤tP∧tP<mI.length):Sat (f45 tR tP tX tD mI mH mO mE mN mS mU []) (QE8 mO):=by
 unfold f45
 refine .bind (.idx hp) λx hx=> .cond (λ_=> .pure trivial) λh36=>?_
 have hm:=hv.i x (bY hx)
 have ho:=(f36_iff hm.2).1 (by simpa using h36)
 have hr:=mf hm.1 ho
 rw[f46_eq,bnS]
 refine .bind (fm_R _ _ _ _ _ _ _ _ _ _ _ hv hR hX hK hN hU _ hr ho (hn x (bY hx))) λr hr=> .cs (λ_ _=> .pure trivial) λz hz=> .pure ?_
 rw[hz] at hr
 exact hr
theorem f11_R(hv:MV mI mH mO mS)(hE:mE≤64)(hn:∀x∈mI,I64 x.n)(hK:KS mO mS)(hN:∀v∈mN,I64 v)(hU:mU.length≤1000000)(r:bj)(hR:RI r.r):Sat (f11 mI mH mO mE mN mS mU r) (λz=>RI z.1.r∧KS mO z.2.2.2.2.1):=by
 unfold f11
 refine .bind (P:=λz=>RI z.1.r∧KS mO z.2.2.2.2.1) ?_ λr hr=> .pure hr
 unfold f44_45
 refine .bind (.eq rfl) λb _=> .cond (λ_=> .pure ⟨jx,hK⟩) λ_=> .cond (λ_=> .pure ⟨jx,hK⟩) λh=>?_
 simp only[Bool.or_eq_false_iff,decide_eq_false_iff_not] at h
 refine .bind (f45_R _ _ _ _ _ _ _ _ _ _ _ hv hn hR (by unfold I64;omega) hK hN hU oM) λr hr=> .cs (λ_ _=> .pure ⟨jx,hK⟩) λz hz=> .pure ?_
 rw[hz] at hr
 exact⟨hr.1,hr.2⟩
end
theorem jJ{os:List Obj}{S:List (List Int)}(h:Shape os S)(ho:∀o∈os,o.size≤16384):∀r∈S,r.length≤16384:=λr hr=>by
 have h1:(r.length:Int)∈S.map (λr=>(r.length:Int)):=List.mem_map_of_mem hr
 have h2:S.map (λr=>(r.length:Int))=os.map (·.size):=h
 rw[h2] at h1
 obtain⟨o,h3,h4⟩:=List.mem_map.1 h1
 have:=ho o h3
 omega
theorem mX{os:List Obj}(hs:os.length≤4096):∀(L:List Int)(last:Int),hP os last L=true→∀n∈L,0≤n∧n<9223372036854775807
 |[],_,_,n,h=>by cases h
 |x::r,last,h,n,hn=>by
  rw[hP,Bool.and_eq_true,Bool.and_eq_true] at h
  rcases List.mem_cons.1 hn with rfl|hn
  ·have ha:=h.1.2
   unfold aim at ha
   cases hi:idx os n with
   |none=>rw[hi] at ha;cases ha
   |some y=>have:=bX hi;omega
  ·exact mX hs r x h.2 n hn
theorem q6{t:ao}(hv:VT t):∀y∈t.objs,y.set_.length<9223372036854775808∧∀n∈y.set_,0≤n∧n<9223372036854775807:=λy hy=>by
 refine⟨hv.sz.sets y hy,λn hn=>?_⟩
 have h:=hv.obj y hy
 unfold fR at h
 rw[Bool.and_eq_true] at h
 cases hp:y.ptr
 ·have h2:=h.2
  rw[hp,Bool.not_false,cdT,decide_eq_true_eq] at h2
  have:y.set_=[]:=List.length_eq_zero_iff.1 oM
  rw[this] at hn
  cases hn
 ·have h2:=h.2
  rw[hp,Bool.not_true,cdF,Bool.and_eq_true] at h2
  exact mX hv.objs _ _ h2.1 n hn
theorem ni{t:ao}(hv:VT t):∀y∈t.objs,y.size≤16384:=λy hy=>by
 have h:=hv.obj y hy
 unfold fR at h
 simp only[Bool.and_eq_true,Bool.not_eq_true',Bool.or_eq_false_iff,decide_eq_false_iff_not] at h
 omega
structure SzN(t:ao):Prop where
 n:∀x∈t.insns,I64 x.n
 lo:∀o∈t.objs,I64 o.lo
 iv:∀x∈t.inits,I64 x.v
theorem ua{S:List (List Int)}{x:eO}(hx:I64 x.v)(h:∀r∈S,∀v∈r,I64 v):∀r∈jP S x,∀v∈r,I64 v:=by
 unfold jP
 intro r hr v hv
 rcases List.mem_or_eq_of_mem_set hr with hr|rfl
 ·exact h r hr v hv
 ·rcases List.mem_or_eq_of_mem_set hv with hv|rfl
  ·cases he:S[x.o.toNat]? with
   |none=>rw[he] at hv;cases hv
   |some y=>rw[he] at hv;exact h y (List.mem_of_getElem? he) v hv
  ·exact hx
theorem rm:∀(L:List eO)(S:List (List Int)),(∀x∈L,I64 x.v)→(∀r∈S,∀v∈r,I64 v)→∀r∈L.foldl jP S,∀v∈r,I64 v
 |[],S,_,h=>h
 |x::L,S,hL,h=>rm L (jP S x) (λy hy=>hL y (List.mem_cons_of_mem _ hy)) (ua (hL x List.mem_cons_self) h)
theorem qM{t:ao}(hv:VT t)(hn:SzN t):KS t.objs (store t):=by
 refine⟨jf hv,rm _ _ hn.iv λr hr v hv'=>?_⟩
 obtain⟨o,ho,rfl⟩:=List.mem_map.1 hr
 unfold de at hv'
 have:=List.eq_of_mem_replicate hv'
 subst this
 unfold p9
 cases fits o 0
 ·exact hn.lo o ho
 ·show I64 0;unfold I64;omega
section
variable(t:ao)(hv:VT t)(N:List Int)(S:List (List Int))(U:List Int)
include hv
end
def OKw{α:Type}(Q:α→Prop):Rs α→Prop
 | .bad e=>e≠0
 | .ok z=>Q z
theorem kK{α:Type}{Q:α→Prop}:OKw Q (Rs.bad 280):=by show(280:Int)≠0;decide
def Hd(mH:List an)(p c v:Int):Prop:=∃x,idx mH (fi p c mH 0)=some x∧v=x.at_
def noD(o:Int):Bool:=decide (o=4)||(decide (o=6)||(decide (o=8)||(decide (o=27)||(decide (o=28)||(decide (o=29)||(decide (o=30)||(decide (o=31)||(decide (o=32)||(decide (o=35)||(decide (o=37)||(decide (o=39)||(decide (o=40)||decide (o=41)))))))))))))
def Rd(x:ak)(tR R:Nat→Int):Prop:=R=tR∨(noD x.op=false∧∃v,R=c8 tR (Int.toNat x.d) v)
def Nx1(n:Nat)(tP:Int)(x:ak)(P:Int):Prop:=
 (P=tP+1∧tP+1<n∧x.op≠29∧x.op≠33∧x.op≠34)∨(P=x.to∧(x.op=29∨x.op=30∨x.op=31))∨(x.op=32∧∃a,0≤a∧a<x.m∧P=IntKind.i64.wrap (x.to+a))
structure Go1(n:Nat)(tR:Nat→Int)(tP tX:Int)(x:ak)(R:Nat→Int)(P X:Int)(A:List Act):Prop where
 r:Rd x tR R
 e:X=tX
 k:∀a,A=[a]→a.kind≠5
 c:x.op=35→tR (Int.toNat x.a)=0
 n:Nx1 n tP x P
def rsB(o:Int):Prop:=o=27∨o=28∨o=33∨o=34∨o=35∨o=38
structure Go2(mH:List an)(mE:Int)(tR:Nat→Int)(tP:Int)(x:ak)(R:Nat→Int)(P X:Int)(A:List Act):Prop where
 r:R=λ_=>0
 e:X≠0∧-2≤X∧X≤mE
 h:Hd mH tP X P
 a:(∃a,A=[a]∧a.kind=5∧0<X∧rsB x.op)∨(A=[]∧x.op=35∧tR (Int.toNat x.a)≠0)
def Wy(n:Nat)(mH:List an)(mE:Int)(tR:Nat→Int)(tP tX:Int)(x:ak)(R:Nat→Int)(P X D:Int)(A:List Act):Prop:=
 (0≤D∧D≤1000000)∧(Go1 n tR tP tX x R P X A∨Go2 mH mE tR tP x R P X A)
def FitS(os:List Obj)(S:List (List Int)):Prop:=∀(i:Nat)(o:Obj)(r:List Int),os[i]? =some o→S[i]? =some r→∀v∈r,fits o v=true
theorem FitS.set{os:List Obj}{S:List (List Int)}(h:FitS os S){o k:Int}{t:Obj}{x:List Int}{v:Int}(h0:idx os o=some t)(h1:idx S o=some x)(hv:fits t v=true):FitS os (S.set o.toNat (x.set k.toNat v)):=by
 intro i y r hy hr w hw
 have g0:=bB h0
 have g1:=bB h1
 by_cases e:o.toNat=i
 ·subst e
  rw[g0] at hy
  obtain rfl:=inS hy
  have hlt:o.toNat<S.length:=(giS.1 g1).1
  rw[List.getElem?_set_self hlt] at hr
  obtain rfl:=inS hr
  rcases List.mem_or_eq_of_mem_set hw with hw|rfl
  ·exact h _ _ _ g0 g1 w hw
  ·exact hv
 ·rw[List.getElem?_set_ne e] at hr
  exact h i y r hy hr w hw
section
variable(tR:Nat→Int)(tP:Int)(tX:Int)(tD:Int)(mI:List ak)(mH:List an)(mO:List Obj)(mE:Int)(mN:List Int)(mS:List (List Int))(mU:List Int)
variable(hp:0≤tP∧tP<(mI.length:Int))(hI:mI.length≤65536)(hD:0≤tD∧tD≤1000000)
theorem f131_W(hp:0≤tP∧tP<(mI.length:Int))(hI:mI.length≤65536)(tA:List Act):Sat (f131 tR tP tX tD mI mH mO mE mN mS mU tA) (OKw λz=>z=(tR,tP+1,tX,tD)∧tP+1<mI.length):=by
 unfold f131
 rw[w64 oM oM]
 exact .cond (λ_=> .pure kK) (λh=> .pure ⟨rfl,by have:=of_decide_eq_false h;omega⟩)
theorem f59_W(hH:mH.length≤4096)(hD:0≤tD∧tD≤1000000)(tA:List Act)(c:Int):Sat (f59 tR tP tX tD mI mH mO mE mN mS mU tA c) (OKw λz=>z.1=(λ_=>0)∧Hd mH tP c z.2.1∧z.2.2.1=c∧0≤z.2.2.2∧z.2.2.2≤1000000):=by
 unfold f59
 rw[al,al,f59_l1_eq tP mH c _ oM _ 0 0 rfl (Nat.zero_le _) oM,List.drop_zero]
 have h:=rp tP c mH mH.length 0 oM
 rw[List.drop_zero] at h
 refine .cond (λ_=> .pure kK) λh0=>?_
 have h0:=of_decide_eq_false h0
 rcases h with e|⟨x,hv,hx⟩
 ·omega
 ·refine .bind (.eq hx) λy hy=>?_
  subst hy
  rw[al]
  refine .cond (λ_=> .cond (λ_=> .pure kK) λh1=> .pure ⟨rfl,⟨y,hx,rfl⟩,rfl,?_⟩) λ_=> .cond (λ_=> .pure kK) λh1=> .pure ⟨rfl,⟨y,hx,rfl⟩,rfl,?_⟩
  ·have h1:=of_decide_eq_false h1
   rw[w64 oM oM] at h1⊢
   show 0≤tD+1∧tD+1≤1000000
   omega
  ·exact hD
theorem f56_W(hH:mH.length≤4096)(hD:0≤tD∧tD≤1000000)(c:Int):Sat (f56 tR tP tX tD mI mH mO mE mN mS mU [] c) (OKw λz=>z.1=(λ_=>0)∧Hd mH tP c z.2.1∧z.2.2.1=c∧(0≤z.2.2.2.1∧z.2.2.2.1≤1000000)∧z.2.2.2.2=[Act.mk 0 0 5 c 0 0]):=by
 unfold f56
 refine .bind (f59_W _ _ _ _ _ _ _ _ _ _ _ hH hD _ _) λr hr=>?_
 refine .cs (λe he=> .pure (by rw[he] at hr;exact hr)) λz hz=>?_
 rw[hz] at hr
 exact .guard (bm oM sM) (.pure ⟨hr.1,hr.2.1,hr.2.2.1,hr.2.2.2,rfl⟩)
abbrev W4(x:ak):Rs ((Nat→Int)×Int×Int×Int)→Prop:=OKw λz=>Wy mI.length mH mE tR tP tX x z.1 z.2.1 z.2.2.1 z.2.2.2 []
abbrev W5(x:ak):Rs ((Nat→Int)×Int×Int×Int×(List Act))→Prop:=OKw λz=>Wy mI.length mH mE tR tP tX x z.1 z.2.1 z.2.2.1 z.2.2.2.1 z.2.2.2.2
theorem q7:∀a:Act,([]:List Act)=[a]→a.kind≠5:=λa h=>by cases h
theorem ju(x:ak)(R:Nat→Int)(hR:Rd x tR R)(d:Int)(hd:0≤d∧d≤1000000)(A:List Act)(hA:∀a,A=[a]→a.kind≠5)(h1:tP+1<(mI.length:Int))(h2:x.op≠29∧x.op≠33∧x.op≠34)(h3:x.op=35→tR (Int.toNat x.a)=0):Wy mI.length mH mE tR tP tX x R (tP+1) tX d A:=
 ⟨hd, .inl ⟨hR,rfl,hA,h3, .inl ⟨rfl,h1,h2⟩⟩⟩
theorem gO(hp:0≤tP∧tP<(mI.length:Int))(hI:mI.length≤65536)(x:ak)(R:Nat→Int)(hR:Rd x tR R)(d:Int)(hd:0≤d∧d≤1000000)(h2:x.op≠29∧x.op≠33∧x.op≠34)(h3:x.op=35→tR (Int.toNat x.a)=0)(tA:List Act):
  Sat (f131 R tP tX d mI mH mO mE mN mS mU tA) (W4 tR tP tX mI mH mE x):=by
 refine(f131_W _ _ _ _ _ _ _ _ _ _ _ hp hI tA).mono λr hr=>?_
 cases r with
 |bad e=>exact hr
 |ok z=>
  obtain⟨rfl,h1⟩:=hr
  exact ju tR tP tX mI mH mE x R hR d hd [] q7 h1 h2 h3
theorem f81_W(hp:0≤tP∧tP<(mI.length:Int))(hI:mI.length≤65536)(hD:0≤tD∧tD≤1000000)(hS:mS.length=mO.length)(tA:List Act)(x:ak)(hx:Rg x)(ho:x.op=3∨x.op=5∨x.op=7):Sat (f81 tR tP tX tD mI mH mO mE mN mS mU tA x) (W4 tR tP tX mI mH mE x):=by
 have hno:noD x.op=false:=by rcases ho with e|e|e<;>rw[e]<;>rfl
 unfold f81
 refine .letk (λk=>Sat (k ()) (W4 tR tP tX mI mH mE x)) (.pure kK) λk28 h28=>?_
 refine .letk (λk=>∀t o i a b c d e,Pl mS o i→Sat (k t o i a b c d e) (W4 tR tP tX mI mH mE x)) (λt o i a b c d e hp'=>?_) λk37 h37=>?_
 ·obtain⟨y,h1,v,h2⟩:=hp'
  refine .bind (.eq h1) λ_ e1=>?_
  rw[e1]
  refine .bind (.eq h2) λ_ e2=> .guard hx.d (.bind (gO tR tP tX mI mH mO mE mN mS mU hp hI x _ (.inr ⟨hno,_,rfl⟩) tD hD ⟨oM,oM,oM⟩ (λh=>oM) _) λr hr=>?_)
  exact .cs (λe he=> .pure (by rw[he] at hr;exact hr)) (λz hz=> .pure (by rw[hz] at hr;exact hr))
 ·refine .guard hx.a (.letk (λk=>∀o i,Sat (k o i) (W4 tR tP tX mI mH mE x)) (λo i=>?_) λk41 h41=>?_)
  ·rw[al]
   refine .letk (λk=>Pl mS o i→Sat (k ()) (W4 tR tP tX mI mH mE x)) (λhp'=>?_) λk56 h56=>?_
   ·obtain⟨y,h1,v,h2⟩:=id hp'
    have:=bX h1
    refine .bind (.idx oM) λy _=>h37 _ _ _ _ _ _ _ _ hp'
   ·refine .bind (kX mS o i) λb hb=> .cond (λ_=>h28) λh0=>?_
    have hp':=hb h0
    obtain⟨y,h1,v,h2⟩:=id hp'
    refine .bind (.eq h1) λ_ e1=>?_
    rw[e1]
    exact .bind (.eq h2) λ_ _=>h56 hp'
  ·refine .letk (λk=>∀b,Sat (k b) (W4 tR tP tX mI mH mE x)) (λb=>?_) λk43 h43=> .cond (λ_=>h43 _) (λ_=>h43 _)
   refine .cond (λ_=> .cond (λ_=>h28) λ_=>h41 _ _) λ_=>?_
   refine .letk (λk=>∀b,Sat (k b) (W4 tR tP tX mI mH mE x)) (λb=>?_) λk49 h49=> .cond (λ_=>h49 _) (λ_=>h49 _)
   exact .cond (λ_=> .cond (λ_=>h28) λ_=>h41 _ _) λ_=>h41 _ _
abbrev W6(x:ak):Rs ((Nat→Int)×Int×Int×Int×(List (List Int)))→Prop:=OKw λz=>Wy mI.length mH mE tR tP tX x z.1 z.2.1 z.2.2.1 z.2.2.2.1 []∧FitS mO z.2.2.2.2
theorem f82_W(hp:0≤tP∧tP<(mI.length:Int))(hI:mI.length≤65536)(hD:0≤tD∧tD≤1000000)(hR:RI tR)(hS:mS.length=mO.length)(hF:FitS mO mS)(hO:∀y∈mO,y.set_.length<9223372036854775808∧∀n∈y.set_,0≤n∧n<9223372036854775807)(tA:List Act)(x:ak)(hx:Rg x)(ho:x.op=4∨x.op=6∨x.op=8):Sat (f82 tR tP tX tD mI mH mO mE mN mS mU tA x) (W6 tR tP tX mI mH mO mE x):=by
 unfold f82
 refine .guard hx.d (.letk (λk=>∀v,I64 v→Sat (k v) (W6 tR tP tX mI mH mO mE x)) (λv46 h46=>?_) λk hk=>?_)
 ·refine .letk (λk=>Sat (k ()) (W6 tR tP tX mI mH mO mE x)) (.pure kK) λk50 h50=>?_
  refine .letk (λk=>∀t o i a b c d e,idx mO o=some t→Pl mS o i→Sat (k t o i a b c d e) (W6 tR tP tX mI mH mO mE x)) (λt o i a b c d e ht hp'=>?_) λk59 h59=>?_
  ·have hto:=hO t (bY ht)
   refine .bind (.eq (f63_eq t v46 hto.1 hto.2 h46)) λr hr=> .cond (λ_=> .pure kK) λhf=>?_
   have hfit:fits t v46=true:=by rw[hr] at hf;simpa using hf
   refine .bind (gO tR tP tX mI mH mO mE mN mS mU hp hI x tR (.inl rfl) tD hD ⟨oM,oM,oM⟩ (λh=>oM) _) λr hr=> .cs (λe he=> .pure (by rw[he] at hr;exact hr)) λz hz=>?_
   rw[hz] at hr
   obtain⟨y,h1,v,h2⟩:=hp'
   refine .bind (.eq h1) λ_ e1=>?_
   rw[e1]
   exact .bind (.eq h2) λ_ e2=> .pure ⟨hr,hF.set ht h1 hfit⟩
  ·refine .guard hx.a (.letk (λk=>∀o i,Sat (k o i) (W6 tR tP tX mI mH mO mE x)) (λo i=>?_) λk41 h41=>?_)
   ·rw[al]
    refine .letk (λk=>Pl mS o i→Sat (k ()) (W6 tR tP tX mI mH mO mE x)) (λhp'=>?_) λk56 h56=>?_
    ·obtain⟨y,h1,v,h2⟩:=id hp'
     have:=bX h1
     refine .bind (.idx oM) λy hy=>h59 _ _ _ _ _ _ _ _ hy hp'
    ·refine .bind (kX mS o i) λb hb=> .cond (λ_=>h50) λh0=>?_
     have hp':=hb h0
     obtain⟨y,h1,v,h2⟩:=id hp'
     refine .bind (.eq h1) λ_ e1=>?_
     rw[e1]
     exact .bind (.eq h2) λ_ _=>h56 hp'
   ·refine .letk (λk=>∀b,Sat (k b) (W6 tR tP tX mI mH mO mE x)) (λb=>?_) λk43 h43=> .cond (λ_=>h43 _) (λ_=>h43 _)
    refine .cond (λ_=> .cond (λ_=>h50) λ_=>h41 _ _) λ_=>?_
    refine .letk (λk=>∀b,Sat (k b) (W6 tR tP tX mI mH mO mE x)) (λb=>?_) λk49 h49=> .cond (λ_=>h49 _) (λ_=>h49 _)
    exact .cond (λ_=> .cond (λ_=>h50) λ_=>h41 _ _) λ_=>h41 _ _
 ·exact .cond (λ_=> .guard hx.a (hk _ (hR _))) (λ_=>hk _ (hR _))
end
theorem sI{x:ak}(h:eT x=true)(ho:x.op=37):IntKind.u8.wrap x.n≠5:=by
 unfold eT at h
 rw[ho,ro] at h
 simp only[Bool.and_eq_true] at h
 have:=h.2.2
 simp only[fl,rng,f179] at this
 simp at this
 rw[IntKind.wrap_u8]
 omega
section
variable(tR:Nat→Int)(tP:Int)(tX:Int)(tD:Int)(mI:List ak)(mH:List an)(mO:List Obj)(mE:Int)(mN:List Int)(mS:List (List Int))(mU:List Int)
theorem f83_W(hp:0≤tP∧tP<(mI.length:Int))(hI:mI.length≤65536)(hD:0≤tD∧tD≤1000000)(hR:RI tR)(tA:List Act)(x:ak)(hx:Rg x)(hm:eT x=true)(hn:I64 x.n)(ho:x.op=29∨x.op=30∨x.op=31∨x.op=32):Sat (f83 tR tP tX tD mI mH mO mE mN mS mU tA x) (W4 tR tP tX mI mH mE x):=by
 have hr:=hR (Int.toNat x.a)
 unfold f83
 refine .guard hx.a (.cond (λh=>?_) λ_=>?_)
 ·rw[Bool.and_eq_true,Bool.and_eq_true] at h
  have h32:x.op=32:=of_decide_eq_true h.1.1
  obtain⟨a1,a2,a3,a4⟩:=mg hm h32
  have hJ:=sG (tR (Int.toNat x.a)) x.n x.m hr hn a3 a4
  have hj:x.n≤tR (Int.toNat x.a)∧tR (Int.toNat x.a)<x.n+x.m:=by
   rw[h.1.2,h.2,Bool.and_self] at hJ
   exact of_decide_eq_true hJ.symm
  obtain⟨n1,n2⟩:=hn
  obtain⟨r1,r2⟩:=hr
  refine .pure ⟨hD, .inl ⟨.inl rfl,rfl,q7,λh=>oM, .inr (.inr ⟨h32,tR (Int.toNat x.a) - x.n,oM,oM,?_⟩)⟩⟩
  show IntKind.i64.wrap (x.to+IntKind.i64.wrap (tR (Int.toNat x.a) - x.n))=_
  rw[w64 (x:=tR (Int.toNat x.a) - x.n) oM oM]
 ·refine .letk (λk=>∀b,(b=true→x.op=29∨x.op=30∨x.op=31)→(b=false→x.op≠29)→Sat (k b) (W4 tR tP tX mI mH mE x)) (λb h1 h2=>?_) λk hk=>?_
  ·refine .cond (λh=> .pure ⟨hD, .inl ⟨.inl rfl,rfl,q7,λh'=>oM, .inr (.inl ⟨rfl,h1 h⟩)⟩⟩) λh=>?_
   refine .bind (gO tR tP tX mI mH mO mE mN mS mU hp hI x tR (.inl rfl) tD hD ⟨h2 h,oM,oM⟩ (λh=>oM) _) λr hr=>?_
   exact .cs (λe he=> .pure (by rw[he] at hr;exact hr)) (λz hz=> .pure (by rw[hz] at hr;exact hr))
  ·refine .cond (λh=>hk _ (λ_=> .inl (of_decide_eq_true h)) (λh'=>by rw[h] at h';cases h')) λh=>?_
   have h29:=of_decide_eq_false h
   refine .cond (λh=>hk _ (λh'=>by rw[Bool.and_eq_true] at h';exact .inr (.inl (of_decide_eq_true h'.1))) λ_=>h29) λh=>hk _ (λh'=>by rw[Bool.and_eq_true] at h';exact .inr (.inr (of_decide_eq_true h'.1))) λ_=>h29
theorem gY(x:ak)(c:Int)(R:Nat→Int)(P X D:Int)(A:List Act)(hc:0<c∧c≤mE)(hr:rsB x.op)(h:R=(λ_=>0)∧Hd mH tP c P∧X=c∧(0≤D∧D≤1000000)∧A=[Act.mk 0 0 5 c 0 0]):Wy mI.length mH mE tR tP tX x R P X D A:=by
 obtain⟨h1,h2,h3,h4,h5⟩:=h
 subst h3
 exact⟨h4, .inr ⟨h1,oM,h2, .inl ⟨_,h5,rfl,hc.1,hr⟩⟩⟩
theorem f84_W(hp:0≤tP∧tP<(mI.length:Int))(hI:mI.length≤65536)(hH:mH.length≤4096)(hE:4≤mE)(hD:0≤tD∧tD≤1000000)(x:ak)(hx:Rg x)(ho:x.op=27∨x.op=28):Sat (f84 tR tP tX tD mI mH mO mE mN mS mU [] x) (W5 tR tP tX mI mH mE x):=by
 unfold f84
 refine .guard hx.a (.cond (λ_=>?_) λ_=>?_)
 ·exact .bind (f56_W _ _ _ _ _ _ _ _ _ _ _ hH hD _) λr hr=> .cs (λe he=> .pure (by rw[he] at hr;exact hr)) (λz hz=> .pure (by rw[hz] at hr;exact gY tR tP tX mI mH mE x 1 _ _ _ _ _ ⟨oM,oM⟩ (by rcases ho with e|e;exact .inl e;exact .inr (.inl e)) hr))
 ·exact .bind (gO tR tP tX mI mH mO mE mN mS mU hp hI x tR (.inl rfl) tD hD ⟨oM,oM,oM⟩ (λh=>oM) _) λr hr=> .cs (λe he=> .pure (by rw[he] at hr;exact hr)) (λz hz=> .pure (by rw[hz] at hr;exact hr))
theorem f85_W(hp:0≤tP∧tP<(mI.length:Int))(hI:mI.length≤65536)(hH:mH.length≤4096)(hD:0≤tD∧tD≤1000000)(x:ak)(hx:Rg x)(ho:x.op=33∨x.op=34∨x.op=35)(h33:x.op=33→1≤x.n∧x.n≤mE):Sat (f85 tR tP tX tD mI mH mO mE mN mS mU [] x) (W5 tR tP tX mI mH mE x):=by
 unfold f85
 refine .guard hx.a (.cond (λe=>?_) λe1=> .cond (λe=>?_) λe2=> .cond (λ_=> .pure kK) λe3=> .cond (λe=>?_) λe4=>?_)
 ·have e:=of_decide_eq_true e
  exact .bind (f56_W _ _ _ _ _ _ _ _ _ _ _ hH hD _) λr hr=> .cs (λe he=> .pure (by rw[he] at hr;exact hr)) (λz hz=> .pure (by rw[hz] at hr;exact gY tR tP tX mI mH mE x x.n _ _ _ _ _ (by have:=h33 e;omega) (.inr (.inr (.inl e))) hr))
 ·rw[Bool.and_eq_true] at e
  have ea:=of_decide_eq_true e.1
  have eb:=of_decide_eq_true e.2
  exact .bind (gO tR tP tX mI mH mO mE mN mS mU hp hI x tR (.inl rfl) tD hD ⟨oM,oM,oM⟩ (λh=>eb) _) λr hr=> .cs (λe he=> .pure (by rw[he] at hr;exact hr)) (λz hz=> .pure (by rw[hz] at hr;exact hr))
 ·have e:=of_decide_eq_true e
  simp only[Bool.or_eq_false_iff,decide_eq_false_iff_not] at e3
  have hne:tR (Int.toNat x.a)≠0:=λh0=>by rw[e,h0] at e2;cases e2
  refine .bind (f59_W _ _ _ _ _ _ _ _ _ _ _ hH hD _ _) λr hr=> .cs (λe he=> .pure (by rw[he] at hr;exact hr)) (λz hz=> .pure ?_)
  rw[hz] at hr
  obtain⟨g1,g2,g3,g4⟩:=hr
  rw[←g3] at g2
  exact⟨g4, .inr ⟨g1,⟨by rw[g3];exact hne,by rw[g3];omega,by rw[g3];omega⟩,g2, .inr ⟨rfl,e,hne⟩⟩⟩
 ·have n33:=of_decide_eq_false e1
  have n35:=of_decide_eq_false e4
  have e34:x.op=34:=oM
  rw[dcT e34,Bool.true_and] at e3
  simp only[Bool.or_eq_false_iff,decide_eq_false_iff_not] at e3
  exact .bind (f56_W _ _ _ _ _ _ _ _ _ _ _ hH hD _) λr hr=> .cs (λe he=> .pure (by rw[he] at hr;exact hr)) (λz hz=> .pure (by rw[hz] at hr;exact gY tR tP tX mI mH mE x _ _ _ _ _ _ oM (.inr (.inr (.inr (.inl e34)))) hr))
abbrev W7(x:ak):Rs ((Nat→Int)×Int×Int×Int×(List Int)×(List Int)×(List Act))→Prop:=OKw λz=>Wy mI.length mH mE tR tP tX x z.1 z.2.1 z.2.2.1 z.2.2.2.1 z.2.2.2.2.2.2
theorem qZ{k t s a b n:Int}(h:k≠5):∀y:Act,([]++ [Act.mk t s k a b n]:List Act)=[y]→y.kind≠5:=λy e=>by
 obtain rfl:Act.mk t s k a b n=y:=by simpa using e
 exact h
theorem f86_W(hp:0≤tP∧tP<(mI.length:Int))(hI:mI.length≤65536)(hH:mH.length≤4096)(hE:4≤mE)(hD:0≤tD∧tD≤1000000)(x:ak)(hx:Rg x)(hU:mU.length≤1000000)(ho:x.op=37∨x.op=38∨x.op=39)(h37:x.op=37→IntKind.u8.wrap x.n≠5):Sat (f86 tR tP tX tD mI mH mO mE mN mS mU [] x) (W7 tR tP tX mI mH mE x):=by
 have hT:=f131_W tR tP tX tD mI mH mO mE mN mS mU hp hI []
 unfold f86
 refine .cond (λh37'=>?_) λn37=> .cond (λh39=>?_) λn39=> .cond (λh0=>?_) λh0=>?_
 ·refine .bind hT λr hr=> .cs (λe he=> .pure (by rw[he] at hr;exact hr)) (λz hz=>?_)
  rw[hz] at hr
  obtain⟨rfl,h1⟩:=hr
  have e37:=of_decide_eq_true h37'
  exact .letk (λk=>∀c,Sat (k c) (W7 tR tP tX mI mH mE x)) (λc=> .guard (bm oM sM) (.pure (ju tR tP tX mI mH mE x tR (.inl rfl) tD hD _ (qZ (h37 e37)) h1 ⟨oM,oM,oM⟩ λh=>oM))) λk hk=> .cond (λ_=>hk _) (λ_=>hk _)
 ·refine .guard hx.a (.bind hT λr hr=> .cs (λe he=> .pure (by rw[he] at hr;exact hr)) λz hz=>?_)
  rw[hz] at hr
  obtain⟨rfl,h1⟩:=hr
  have e39:=of_decide_eq_true h39
  exact .guard (bm oM (by simp;omega)) (.guard (bm oM sM) (.pure (ju tR tP tX mI mH mE x tR (.inl rfl) tD hD _ (qZ dC) h1 ⟨oM,oM,oM⟩ λh=>oM)))
 ·have n37:=of_decide_eq_false n37
  have n39:=of_decide_eq_false n39
  exact .bind (f56_W _ _ _ _ _ _ _ _ _ _ _ hH hD _) λr hr=> .cs (λe he=> .pure (by rw[he] at hr;exact hr)) (λz hz=> .pure (by rw[hz] at hr;exact gY tR tP tX mI mH mE x 4 _ _ _ _ _ ⟨oM,oM⟩ (.inr (.inr (.inr (.inr (.inr oM))))) hr))
 ·have h0:=of_decide_eq_false h0
  have n37:=of_decide_eq_false n37
  have n39:=of_decide_eq_false n39
  have e38:x.op=38:=oM
  refine .bind hT λr hr=> .cs (λe he=> .pure (by rw[he] at hr;exact hr)) (λz hz=>?_)
  rw[hz] at hr
  obtain⟨rfl,h1⟩:=hr
  obtain⟨v,N,rfl⟩:∃v N,mN=v::N:=by
   cases mN with
   |nil=>exact absurd rfl h0
   |cons v N=>exact⟨v,N,rfl⟩
  have e:idx (v::N) 0=some v:=rfl
  refine .bind (.eq e) λw hw=> .guard hx.d (.bind (.eq e) λy hy=> .guard (bm oM sM) (.guard (by simp[dp];omega) (.pure ?_)))
  exact ju tR tP tX mI mH mE x _ (.inr ⟨by rw[e38];rfl,w,rfl⟩) tD hD _ (qZ dC) h1 ⟨oM,oM,oM⟩ (λh=>oM)
theorem f87_W(hp:0≤tP∧tP<(mI.length:Int))(hI:mI.length≤65536)(tA:List Act)(x:ak)(hx:Rg x)(ho:x.op=1∨x.op=2∨x.op=36∨x.op=40∨x.op=41):Sat (f87 tR tP tX tD mI mH mO mE mN mS mU tA x) (W4 tR tP tX mI mH mE x):=by
 unfold f87
 refine .letk (λk=>∀R d,Rd x tR R→Sat (k R d) (W4 tR tP tX mI mH mE x)) (λR d hR=>?_) λk hk=>?_
 ·refine .cond (λ_=> .pure kK) λh=>?_
  simp only[Bool.or_eq_false_iff,decide_eq_false_iff_not] at h
  exact .bind (gO tR tP tX mI mH mO mE mN mS mU hp hI x R hR d oM ⟨oM,oM,oM⟩ (λh=>oM) _) λr hr=> .cs (λe he=> .pure (by rw[he] at hr;exact hr)) (λz hz=> .pure (by rw[hz] at hr;exact hr))
 ·have hd:∀v,(x.op=1∨x.op=2∨x.op=36)→Rd x tR (c8 tR (Int.toNat x.d) v):=λv h=> .inr ⟨by rcases h with e|e|e<;>rw[e]<;>rfl,v,rfl⟩
  exact .cond (λe=> .guard hx.d (hk _ _ (hd _ (.inl (of_decide_eq_true e))))) λ_=> .cond (λe=> .guard hx.a (.guard hx.d (hk _ _ (hd _ (.inr (.inl (of_decide_eq_true e))))))) λ_=> .cond (λe=> .guard hx.d (hk _ _ (hd _ (.inr (.inr (of_decide_eq_true e)))))) λ_=> .cond (λ_=>hk _ _ (.inl rfl)) λ_=> .cond (λ_=>hk _ _ (.inl rfl)) (λ_=>hk _ _ (.inl rfl))
theorem uf:∀k:Nat,k<18→noD (((k+9:Nat)):Int)=false:=by decide
theorem f88_W(hp:0≤tP∧tP<(mI.length:Int))(hI:mI.length≤65536)(hD:0≤tD∧tD≤1000000)(tA:List Act)(x:ak)(hx:Rg x)(ho:9≤x.op∧x.op≤26):Sat (f88 tR tP tX tD mI mH mO mE mN mS mU tA x) (W4 tR tP tX mI mH mE x):=by
 have hb:=hx.b oM oM
 have hno:noD x.op=false:=by
  obtain⟨k,hk⟩:∃k:Nat,x.op=((k+9:Nat):Int):=⟨(x.op - 9).toNat,oM⟩
  rw[hk]
  exact uf k oM
 unfold f88
 refine .guard hx.a (.guard hb (.bind (f132_sat _ _ _) λz hz=> .cond (λ_=> .pure kK) λ_=> .guard hx.d ?_))
 exact .bind (gO tR tP tX mI mH mO mE mN mS mU hp hI x _ (.inr ⟨hno,_,rfl⟩) tD hD ⟨oM,oM,oM⟩ (λh=>oM) _) λr hr=> .cs (λe he=> .pure (by rw[he] at hr;exact hr)) (λz hz=> .pure (by rw[hz] at hr;exact hr))
theorem mo81:∀k:Nat,k<41→mth (((k+1:Nat):Int))=81→k+1=3∨k+1=5∨k+1=7:=by decide+kernel
theorem mo82:∀k:Nat,k<41→mth (((k+1:Nat):Int))=82→k+1=4∨k+1=6∨k+1=8:=by decide+kernel
theorem mo83:∀k:Nat,k<41→mth (((k+1:Nat):Int))=83→k+1=29∨k+1=30∨k+1=31∨k+1=32:=by decide+kernel
theorem mo84:∀k:Nat,k<41→mth (((k+1:Nat):Int))=84→k+1=27∨k+1=28:=by decide+kernel
theorem mo85:∀k:Nat,k<41→mth (((k+1:Nat):Int))=85→k+1=33∨k+1=34∨k+1=35:=by decide+kernel
theorem mo86:∀k:Nat,k<41→mth (((k+1:Nat):Int))=86→k+1=37∨k+1=38∨k+1=39:=by decide+kernel
theorem mo87:∀k:Nat,k<41→mth (((k+1:Nat):Int))=87→k+1=1∨k+1=2∨k+1=36∨k+1=40∨k+1=41:=by decide+kernel
theorem mo88:∀k:Nat,k<41→mth (((k+1:Nat):Int))=88→9≤k+1∧k+1≤26:=by decide+kernel
abbrev W8(x:ak):Rs Z8→Prop:=OKw λz=>Wy mI.length mH mE tR tP tX x z.1 z.2.1 z.2.2.1 z.2.2.2.1 z.2.2.2.2.2.2.2∧FitS mO z.2.2.2.2.2.1
theorem fm_W(hv:MV mI mH mO mS)(hp:0≤tP∧tP<(mI.length:Int))(hI:mI.length≤65536)(hE:4≤mE)(hD:0≤tD∧tD≤1000000)(hR:RI tR)(hF:FitS mO mS)(hO:∀y∈mO,y.set_.length<9223372036854775808∧∀n∈y.set_,0≤n∧n<9223372036854775807)(hU:mU.length≤1000000)(x:ak)(hx:Rg x)(hm:eT x=true)(hop:1≤x.op∧x.op≤41)(hn:I64 x.n)(h33:x.op=33→x.n≤mE):
  Sat (fm (mth x.op) tR tP tX tD mI mH mO mE mN mS mU [] x) (W8 tR tP tX mI mH mO mE x):=by
 have hr:=l6 x.op
 obtain⟨k,hk⟩:∃k:Nat,x.op=((k+1:Nat):Int):=⟨(x.op - 1).toNat,oM⟩
 have m1:=mo81 k oM
 have m2:=mo82 k oM
 have m3:=mo83 k oM
 have m4:=mo84 k oM
 have m5:=mo85 k oM
 have m6:=mo86 k oM
 have m7:=mo87 k oM
 have m8:=mo88 k oM
 rw[←hk] at m1 m2 m3 m4 m5 m6 m7 m8
 generalize mth x.op=n at hr m1 m2 m3 m4 m5 m6 m7 m8
 unfold fm
 refine .cond (λe=>?_) λe1=> .cond (λe=>?_) λe2=> .cond (λe=>?_) λe3=> .cond (λe=>?_) λe4=> .cond (λe=>?_) λe5=> .cond (λe=>?_) λe6=> .cond (λe=>?_) λe7=> .cond (λe=>?_) λe8=>?_
 ·have:=m1 (nbE e)
  exact .bind (f81_W _ _ _ _ _ _ _ _ _ _ _ hp hI hD hv.s _ _ hx oM) λr hr=> .pure (by cases r;exact⟨hr,hF⟩;exact hr)
 ·have:=m2 (nbE e)
  exact .bind (f82_W _ _ _ _ _ _ _ _ _ _ _ hp hI hD hR hv.s hF hO _ _ hx oM) λr hr=> .pure (by cases r;exact hr;exact hr)
 ·have:=m3 (nbE e)
  exact .bind (f83_W _ _ _ _ _ _ _ _ _ _ _ hp hI hD hR _ _ hx hm hn oM) λr hr=> .pure (by cases r;exact⟨hr,hF⟩;exact hr)
 ·have:=m4 (nbE e)
  exact .bind (f84_W _ _ _ _ _ _ _ _ _ _ _ hp hI hv.h hE hD _ hx oM) λr hr=> .pure (by cases r;exact⟨hr,hF⟩;exact hr)
 ·have:=m5 (nbE e)
  exact .bind (f85_W _ _ _ _ _ _ _ _ _ _ _ hp hI hv.h hD _ hx oM (λh=>⟨ul hm h,h33 h⟩)) λr hr=> .pure (by cases r;exact⟨hr,hF⟩;exact hr)
 ·have:=m6 (nbE e)
  exact .bind (f86_W _ _ _ _ _ _ _ _ _ _ _ hp hI hv.h hE hD _ hx hU oM (sI hm)) λr hr=> .pure (by cases r;exact⟨hr,hF⟩;exact hr)
 ·have:=m7 (nbE e)
  exact .bind (f87_W _ _ _ _ _ _ _ _ _ _ _ hp hI _ _ hx oM) λr hr=> .pure (by cases r;exact⟨hr,hF⟩;exact hr)
 ·have:=m8 (nbE e)
  exact .bind (f88_W _ _ _ _ _ _ _ _ _ _ _ hp hI hD _ _ hx oM) λr hr=> .pure (by cases r;exact⟨hr,hF⟩;exact hr)
 ·exfalso
  have:=Nat.ne_of_beq_eq_false e1
  have:=Nat.ne_of_beq_eq_false e2
  have:=Nat.ne_of_beq_eq_false e3
  have:=Nat.ne_of_beq_eq_false e4
  have:=Nat.ne_of_beq_eq_false e5
  have:=Nat.ne_of_beq_eq_false e6
  have:=Nat.ne_of_beq_eq_false e7
  have:=Nat.ne_of_beq_eq_false e8
  omega
theorem f45_W(hv:MV mI mH mO mS)(hp:0≤tP∧tP<(mI.length:Int))(hI:mI.length≤65536)(hE:4≤mE)(hD:0≤tD∧tD≤1000000)(hR:RI tR)(hF:FitS mO mS)(hO:∀y∈mO,y.set_.length<9223372036854775808∧∀n∈y.set_,0≤n∧n<9223372036854775807)(hU:mU.length≤1000000)(hn:∀x∈mI,I64 x.n)(h33:∀x∈mI,x.op=33→x.n≤mE):
  Sat (f45 tR tP tX tD mI mH mO mE mN mS mU []) (OKw λz=>∃x,idx mI tP=some x∧(1≤x.op∧x.op≤41)∧Rg x∧Wy mI.length mH mE tR tP tX x z.1 z.2.1 z.2.2.1 z.2.2.2.1 z.2.2.2.2.2.2.2∧FitS mO z.2.2.2.2.2.1):=by
 unfold f45
 refine .bind (.idx hp) λx hx=> .cond (λ_=> .pure (by show(8:Int)≠0;decide)) λh36=>?_
 have hm:=hv.i x (bY hx)
 have ho:=(f36_iff hm.2).1 (by simpa using h36)
 have hr:=mf hm.1 ho
 rw[f46_eq,bnS]
 refine .bind (fm_W _ _ _ _ _ _ _ _ _ _ _ hv hp hI hE hD hR hF hO hU _ hr hm.1 ho (hn x (bY hx)) (h33 x (bY hx))) λr hr'=> .cs (λe he=> .pure (by rw[he] at hr';exact hr')) λz hz=> .pure ?_
 rw[hz] at hr'
 exact⟨x,hx,ho,hr,hr'⟩
structure PW(r:bj)(z:bj×(List Act)×Int×(List Int)×(List (List Int))×(List Int)):Prop where
 bad:z.2.2.1≠0→z.1=bj.mk (λ_=>0) 0 0 0∧z.2.1=[]∧z.2.2.2.2.1=mS
 ok:z.2.2.1=0→∃x,idx mI r.pc=some x∧(1≤x.op∧x.op≤41)∧Rg x∧(-2≤r.exc∧r.exc≤mE)∧Wy mI.length mH mE r.r r.pc r.exc x z.1.r z.1.pc z.1.exc z.1.defer z.2.1
 fit:FitS mO z.2.2.2.2.1
theorem f11_W(hv:MV mI mH mO mS)(hI:mI.length≤65536)(hE:4≤mE)(r:bj)(hR:RI r.r)(hF:FitS mO mS)(hO:∀y∈mO,y.set_.length<9223372036854775808∧∀n∈y.set_,0≤n∧n<9223372036854775807)(hU:mU.length≤1000000)(hn:∀x∈mI,I64 x.n)(h33:∀x∈mI,x.op=33→x.n≤mE):Sat (f11 mI mH mO mE mN mS mU r) (PW mI mH mO mE mS r):=by
 have hbad:∀e:Int,e≠0→PW mI mH mO mE mS r ((bj.mk (λj=>0) 0 0 0),[],e,mN,mS,mU):=λe he=>⟨λ_=>⟨rfl,rfl,rfl⟩,λh=>absurd h he,hF⟩
 unfold f11
 refine .bind (P:=PW mI mH mO mE mS r) ?_ λr hr=> .pure hr
 unfold f44_45
 refine .bind (.eq rfl) λb _=> .cond (λ_=> .pure (hbad 1 dC)) λ_=> .cond (λ_=> .pure (hbad 2 dC)) λh=>?_
 simp only[Bool.or_eq_false_iff,decide_eq_false_iff_not] at h
 refine .bind (f45_W r.r r.pc r.exc r.defer mI mH mO mE mN mS mU hv oM hI hE oM hR hF hO hU hn h33) λq hq=> .cs (λe he=> .pure (hbad e (by rw[he] at hq;exact hq))) λz hz=> .pure ?_
 rw[hz] at hq
 obtain⟨x,h1,h2,h3,h4,h5⟩:=hq
 exact⟨λh=>absurd rfl h,λ_=>⟨x,h1,h2,h3,oM,h4⟩,h5⟩
end
theorem jU(d:Array Int):∀(m i:Nat),i<m→d[i]!∈Lib.compactUpTo d m
 |0,i,h=>oM
 |m+1,i,h=>by
  rw[Lib.compactUpTo_succ]
  by_cases e:i=m
  ·subst e
   by_cases hk:Lib.keeps d i=true
   ·rw[if_pos hk];exact List.mem_append_right _ List.mem_cons_self
   ·have hk':¬(i=0∨d[i]!≠d[i - 1]!):=λh=>hk (by unfold Lib.keeps;exact dcT h)
    have h0:i≠0:=λh=>hk' (.inl h)
    have h1:d[i]! =d[i - 1]! :=by
     by_cases h:d[i]! =d[i - 1]!
     ·exact h
     ·exact absurd (.inr h) hk'
    rw[h1]
    exact List.mem_append_left _ (jU d i (i - 1) oM)
  ·exact List.mem_append_left _ (jU d m i oM)
theorem q9{l:List Int}{v:Int}(h:v∈l):v∈Lib.compact l:=by
 obtain⟨i,hi,rfl⟩:=List.getElem_of_mem h
 have:=jU l.toArray l.length i hi
 have e:l.toArray[i]! =l[i]:=by simp[hi]
 rw[e] at this
 exact this
theorem fi_c{p c c':Int}(h:decide (c>0)=decide (c'>0)):∀(H:List an)(i:Nat),fi p c H i=fi p c' H i
 |[],_=>rfl
 |x::r,i=>by
  rw[fi,fi,fi_c h r (i+1)]
  unfold mh
  rw[h]
theorem Hd.c{H:List an}{p c c' v:Int}(h:decide (c>0)=decide (c'>0))(hd:Hd H p c v):Hd H p c' v:=by
 unfold Hd
 rw[←fi_c h]
 exact hd
theorem f100_l1_eq(H:List an)(p c:Int)(cl:Bool)(hc:cl= !decide (c>0))(hl:H.length<9223372036854775808):∀(n i:Nat)(z:Int),z=(i:Int)→i≤H.length→H.length<n+i→f100_l1 H (λz0=>some (f146 z0 p cl)) (λ_=>some (-1)) n z=some (fi p c (H.drop i) i)
 |0,i,z,_,_,h=>oM
 |n+1,i,z,hz,hi,h=>by
  subst hz
  rw[f100_l1]
  by_cases hh:i<H.length
  ·rw[aH hh,fi,l8 hh,cdT,aQ hh,bnS,bnS,w1 hh hl,f100_l1_eq H p c cl hc hl n (i+1) _ rfl oM oM]
   have e:f146 H[i] p cl=mh p c H[i]:=by
    unfold f146 mh
    rw[hc,Bool.not_not,Bool.or_comm (decide (c>0))]
   rw[e]
   cases mh p c H[i]<;>rfl
  ·have ei:i=H.length:=oM
   subst ei
   rw[l9,cdF,List.drop_eq_nil_of_le (Nat.le_refl _)];rfl
theorem f106_W(t:ao)(hH:t.handlers.length≤4096)(p c:Int)(cl:Bool)(hc:cl= !decide (c>0)):Sat (f106 t p cl) (λr=>∀v,Hd t.handlers p c v→r=(v,true)):=by
 unfold f106 f100
 rw[al,f100_l1_eq t.handlers p c cl hc oM _ 0 0 rfl (Nat.zero_le _) oM,List.drop_zero,bnS]
 have h:=rp p c t.handlers t.handlers.length 0 oM
 rw[List.drop_zero] at h
 refine .cond (λh0=> .pure λv hv=>?_) λh0=>?_
 ·obtain⟨x,h1,h2⟩:=hv
  have:=(bX h1).1
  have:=of_decide_eq_true h0
  omega
 ·rcases h with e|⟨x,h1,hx⟩
  ·rw[e] at h0;cases h0
  ·refine .bind (.eq hx) λy hy=> .pure λv hv=>?_
   obtain⟨x',h1',h2⟩:=hv
   rw[hx] at h1'
   obtain rfl:=inS h1'
   rw[hy,h2]
theorem f107_t{o:Int}(h:rsB o):f107 o=true:=by
 unfold f107
 rcases h with e|e|e|e|e|e<;>(rw[e];rfl)
abbrev QN(l:List Int)(n:Nat)(r:List Int):Prop:=r.length≤n∧∀v∈l,v∈r
theorem t7(l:List Int)(hl:l.length≤100000):Sat (Option.bind (f108 l) λr179=>Option.bind (f109 r179) λr180=>some r180) (QN l 100000):=by
 unfold f108 f109
 rw[bH _ (dcT oM),bnS,bnS]
 refine .pure ⟨?_,λv hv=>q9 (List.mem_mergeSort.2 hv)⟩
 have h:∀L:List Int,(Lib.compact L).length≤L.length:=λL=>by
  unfold Lib.compact Lib.compactUpTo
  rw[List.length_map]
  exact Nat.le_trans (List.length_filter_le _ _) (by rw[List.length_range];exact Nat.le_refl _)
 have h:=h (l.mergeSort λx y=>decide (x≤y))
 rw[List.length_mergeSort] at h
 omega
theorem f65_l1_W(x:ak)(k:List Int→Option (List Int))(Q:List Int→Prop)(l0:List Int)(hm:x.m≤65536∧0≤x.m)(ht:0≤x.to∧x.to≤65535)
  (hk:∀l:List Int,l.length≤70000→(∀v∈l0,v∈l)→(∀a:Int,0≤a→a<x.m→IntKind.i64.wrap (x.to+a)∈l)→Sat (k l) Q):∀(n i:Nat)(z:Int)(l:List Int),z=(i:Int)→(i:Int)≤x.m→x.m<n+i→l.length≤2+i→(∀v∈l0,v∈l)→(∀a:Int,0≤a→a<(i:Int)→IntKind.i64.wrap (x.to+a)∈l)→Sat (f65_l1 x k n z l) Q
 |0,i,z,l,_,_,h,_,_,_=>oM
 |n+1,i,z,l,hz,hi,h,hl,hs,ha=>by
  subst hz
  rw[f65_l1]
  refine .cond (λh1=>?_) λh1=>?_
  ·have h1:=of_decide_eq_true h1
   rw[al]
   refine .guard (bm oM (by simp;omega)) ?_
   rw[w64 (x:=(i:Int)+1) oM oM]
   refine f65_l1_W x k Q l0 hm ht hk n (i+1) _ _ (by push_cast;rfl) oM oM (by simp;omega) (λv hv=>List.mem_append_left _ (hs v hv)) λa h2 h3=>?_
   by_cases e:a=i
   ·subst e;exact List.mem_append_right _ List.mem_cons_self
   ·exact List.mem_append_left _ (ha a h2 oM)
  ·have h1:=of_decide_eq_false h1
   exact hk l oM hs λa h2 h3=>ha a h2 oM
def Nxo(t:ao)(at1:Int)(x:ak)(v:Int):Prop:=(v=x.to∧(x.op=29∨x.op=30∨x.op=31))∨(x.op=32∧∃a,0≤a∧a<x.m∧v=IntKind.i64.wrap (x.to+a))∨(rsB x.op∧Hd t.handlers at1 1 v)∨(x.op=35∧Hd t.handlers at1 0 v)
def Nxt(t:ao)(at1:Int)(x:ak)(v:Int):Prop:=(v=at1+1∧at1+1<t.insns.length∧x.op≠29∧x.op≠33∧x.op≠34)∨Nxo t at1 x v
theorem f65_W(t:ao)(hI:t.insns.length≤65536)(hH:t.handlers.length≤4096)(p:Int)(x:ak)(hx:idx t.insns p=some x)(ho:1≤x.op∧x.op≤41)(hm:eT x=true):Sat (f65 t p) (λr=>r.length≤100000∧∀v,Nxt t p x v→v∈r):=by
 have hp:=bX hx
 unfold f65
 refine .bind (.eq hx) λy hy=>?_
 subst hy
 refine .letk (λk=>∀l:List Int,l.length≤2→Sat (k l) (λr=>r.length≤100000∧(∀v∈l,v∈r)∧∀v,Nxo t p y v→v∈r)) (λl hl=>?_) λk118 h118=>?_
 ·refine .letk (λk=>∀l':List Int,l'.length≤80000→Sat (k l') (λr=>r.length≤100000∧(∀v∈l',v∈r)∧(rsB y.op→∀v,Hd t.handlers p 1 v→v∈r))) (λl' hl'=>?_) λk127 h127=>?_
  ·refine .letk (λk=>∀l2:List Int,l2.length≤100000→Sat (k l2) (QN l2 100000)) (λl2 hl2=>t7 l2 hl2) λk173 h173=>?_
   refine .cond (λhr=>?_) λhr=>(h173 l' oM).mono λr h=>⟨h.1,h.2,λhb=>by rw[f107_t hb] at hr;cases hr⟩
   refine .bind (f106_W t hH p 1 false rfl) λr hr'=>?_
   rw[al,al]
   refine .cond (λh2=> .guard (bm oM (by simp;omega)) ?_) λh2=>?_
   ·refine(h173 _ (by simp;omega)).mono λr' h=>⟨h.1,λv hv=>h.2 v (List.mem_append_left _ hv),λ_ v hv=>?_⟩
    have:=hr' v hv
    exact h.2 v (List.mem_append_right _ (by rw[this];exact List.mem_cons_self))
   ·refine(h173 _ oM).mono λr' h=>⟨h.1,h.2,λ_ v hv=>?_⟩
    rw[hr' v hv] at h2
    cases h2
  ·refine .letk (λk=>∀b,(b=true→y.op=29∨y.op=30∨y.op=31)→(b=false→y.op≠29∧y.op≠30∧y.op≠31)→Sat (k b) (λr=>r.length≤100000∧(∀v∈l,v∈r)∧∀v,Nxo t p y v→v∈r)) (λb hb1 hb2=>?_) λk129 h129=>?_
   ·refine .cond (λhb=>?_) λhb=> .cond (λh32=>?_) λh32=> .cond (λh50=>by have:=of_decide_eq_true h50;omega) λ_=> .cond (λh35=>?_) λh35=>?_
    ·have hj:=hb1 hb
     rw[al]
     refine .guard (bm oM (by simp;omega)) ((h127 _ (by simp;omega)).mono λr h=>⟨h.1,λv hv=>h.2.1 v (List.mem_append_left _ hv),λv hv=>?_⟩)
     rcases hv with⟨e,_⟩|⟨e,_⟩|⟨hb',hh⟩|⟨e,_⟩
     ·exact h.2.1 v (List.mem_append_right _ (by rw[e];exact List.mem_cons_self))
     ·omega
     ·exact h.2.2 hb' v hh
     ·omega
    ·have h32:=of_decide_eq_true h32
     obtain⟨a1,a2,a3,a4⟩:=mg hm h32
     refine f65_l1_W y k127 _ l ⟨a4,oM⟩ ⟨a1,a2⟩ (λl' hl' hs ha=>?_) _ 0 0 _ rfl oM oM hl (λv hv=>hv) (λa h1 h2=>oM)
     refine(h127 _ oM).mono λr h=>⟨h.1,λv hv=>h.2.1 v (hs v hv),λv hv=>?_⟩
     rcases hv with⟨_,e⟩|⟨_,a,g1,g2,g3⟩|⟨hb',hh⟩|⟨e,_⟩
     ·omega
     ·exact h.2.1 v (by rw[g3];exact ha a g1 g2)
     ·exact h.2.2 hb' v hh
     ·omega
    ·have h35:=of_decide_eq_true h35
     refine .bind (f106_W t hH p 0 true rfl) λr hr'=>?_
     rw[al,al]
     refine .cond (λh2=> .guard (bm oM (by simp;omega)) ?_) λh2=>?_
     ·refine(h127 _ (by simp;omega)).mono λr' h=>⟨h.1,λv hv=>h.2.1 v (List.mem_append_left _ hv),λv hv=>?_⟩
      rcases hv with⟨_,e⟩|⟨e,_⟩|⟨hb',hh⟩|⟨_,hh⟩
      ·omega
      ·omega
      ·exact h.2.2 hb' v hh
      ·have:=hr' v hh
       exact h.2.1 v (List.mem_append_right _ (by rw[this];exact List.mem_cons_self))
     ·refine(h127 _ oM).mono λr' h=>⟨h.1,h.2.1,λv hv=>?_⟩
      rcases hv with⟨_,e⟩|⟨e,_⟩|⟨hb',hh⟩|⟨_,hh⟩
      ·omega
      ·omega
      ·exact h.2.2 hb' v hh
      ·rw[hr' v hh] at h2;cases h2
    ·have h35:=of_decide_eq_false h35
     have h32:=of_decide_eq_false h32
     have:=hb2 hb
     refine(h127 _ oM).mono λr' h=>⟨h.1,h.2.1,λv hv=>?_⟩
     rcases hv with⟨_,e⟩|⟨e,_⟩|⟨hb',hh⟩|⟨e,_⟩
     ·omega
     ·omega
     ·exact h.2.2 hb' v hh
     ·omega
   ·refine .cond (λe=>h129 _ (λ_=> .inl (of_decide_eq_true e)) λh=>by rw[e] at h;cases h) λe1=>?_
    refine .cond (λe=>h129 _ (λ_=> .inr (.inl (of_decide_eq_true e))) λh=>by rw[e] at h;cases h) λe2=>?_
    refine .cond (λe=>h129 _ (λ_=> .inr (.inr (of_decide_eq_true e))) λh=>by rw[e] at h;cases h) λe3=>?_
    exact h129 _ (λh=>by have:=of_decide_eq_true h;omega) λ_=>⟨of_decide_eq_false e1,of_decide_eq_false e2,of_decide_eq_false e3⟩
 ·have fin0:(y.op=29∨y.op=33∨y.op=34∨¬p+1<(t.insns.length:Int))→Sat (k118 []) (λr=>r.length≤100000∧∀v,Nxt t p y v→v∈r):=λhc=>(h118 [] sM).mono λr h=>⟨h.1,λv hv=>by
   rcases hv with e|hv
   ·omega
   ·exact h.2.2 v hv⟩
  refine .letk (λk=>∀b,(b=true→y.op=29∨y.op=33∨y.op=34)→Sat (k b) (λr=>r.length≤100000∧∀v,Nxt t p y v→v∈r)) (λb hb=>?_) λk120 h120=>?_
  ·refine .cond (λh=>fin0 (by have:=hb h;omega)) λh=>?_
   rw[al,al,w64 (x:=p+1) oM oM]
   refine .cond (λh1=> .guard (bm oM sM) ?_) λh1=>fin0 (by have:=of_decide_eq_false h1;omega)
   refine(h118 _ sM).mono λr h=>⟨h.1,λv hv=>?_⟩
   rcases hv with e|hv
   ·exact h.2.1 v (by rw[e.1];exact List.mem_append_right _ List.mem_cons_self)
   ·exact h.2.2 v hv
  ·refine .cond (λe=>h120 _ λ_=> .inl (of_decide_eq_true e)) λe1=> .cond (λe=>h120 _ λ_=> .inr (.inl (of_decide_eq_true e))) λe2=> .cond (λe=>h120 _ λ_=> .inr (.inr (of_decide_eq_true e))) λe3=>?_
   refine .cond (λe=>by have:=of_decide_eq_true e;omega) λe4=> .cond (λe=>by have:=of_decide_eq_true e;omega) λe5=>h120 _ λe=>by have:=of_decide_eq_true e;omega
theorem sL{t:ao}{x:ak}(hf:gz t x=true)(ho:x.op=29∨x.op=30∨x.op=31):at1 t x.to=true:=by
 unfold gz at hf
 rcases ho with e|e|e<;>(rw[e] at hf;simp at hf;exact hf.2)
theorem uw{t:ao}{x:ak}(hf:gz t x=true)(ho:x.op=33):x.n≤t.excs:=by
 unfold gz at hf
 rw[ho] at hf;simp at hf;exact hf.2
theorem uv{t:ao}{x:ak}(hf:gz t x=true)(ho:x.op=32):sH t x=true:=by
 unfold gz at hf
 rw[ho] at hf;simp at hf;exact hf.2
theorem pm{t:ao}:∀(H P:List an),fX t P H=true→∀x∈H,at1 t x.at_=true
 |[],_,_,x,h=>by cases h
 |y::r,P,h,x,hx=>by
  rw[fX,Bool.and_eq_true,Bool.and_eq_true] at h
  rcases List.mem_cons.1 hx with rfl|hx
  ·have hb:=h.1.1
   unfold mi at hb
   simp only[Bool.not_eq_true',Bool.or_eq_false_iff,Bool.not_eq_false'] at hb
   exact hb.1.2
  ·exact pm r _ h.2 x hx
theorem tU{t:ao}{tR:Nat→Int}{tP tX:Int}{x:ak}{R:Nat→Int}{P X D:Int}{A:List Act}(h:Wy t.insns.length t.handlers t.excs tR tP tX x R P X D A):Nxt t tP x P:=by
 rcases h.2 with h|h
 ·rcases h.n with h|h|h
  ·exact .inl h
  ·exact .inr (.inl h)
  ·exact .inr (.inr (.inl h))
 ·rcases h.a with⟨a,_,_,h0,hr⟩|⟨_,h35,_⟩
  ·exact .inr (.inr (.inr (.inl ⟨hr,h.h.c (by rw[dcT h0];rfl)⟩)))
  ·by_cases h0:X>0
   ·exact .inr (.inr (.inr (.inl ⟨.inr (.inr (.inr (.inr (.inl h35)))),h.h.c (by rw[dcT h0];rfl)⟩)))
   ·exact .inr (.inr (.inr (.inr ⟨h35,h.h.c (by rw[dcF h0];rfl)⟩)))
theorem wy_at{t:ao}(hv:VT t){tR:Nat→Int}{tP tX:Int}{x:ak}(hx:idx t.insns tP=some x){R:Nat→Int}{P X D:Int}{A:List Act}(h:Wy t.insns.length t.handlers t.excs tR tP tX x R P X D A):0≤P∧P<(t.insns.length:Int):=by
 have hp:=bX hx
 have hf:=hv.fits x (bY hx)
 have hm:eT x=true:=by unfold gz at hf;rw[Bool.and_eq_true] at hf;exact hf.1
 have hn:=hv.n
 rcases h.2 with h|h
 ·rcases h.n with⟨e,h1,_⟩|⟨e,h1⟩|⟨e,a,h1,h2,h3⟩
  ·omega
  ·rw[e];exact ip.1 (sL hf h1)
  ·obtain⟨a1,a2,a3,a4⟩:=mg hm e
   have hj:=uv hf e
   unfold sH at hj
   rw[Bool.and_eq_true,w64 oM oM] at hj
   have:=of_decide_eq_true hj.1
   rw[h3,w64 oM oM]
   omega
 ·obtain⟨y,h1,h2⟩:=h.h
  rw[h2]
  exact ip.1 (pm _ _ hv.hok y (bY h1))
theorem f32_W(t:ao)(hs:Sz t)(hm:MayB t=true)(hv:VT t)(p:Int)(x:ak)(hx:idx t.insns p=some x)(ho:1≤x.op∧x.op≤41):Sat (f32 t p) (λr=>r.length≤100000∧∀v,Nxt t p x v→v∈r):=by
 have hp:=bX hx
 have hf:=hv.fits x (bY hx)
 have hi:eT x=true:=by unfold gz at hf;rw[Bool.and_eq_true] at hf;exact hf.1
 unfold f32
 rw[f37_eq t hs,hm,bnS,dcF oM,dcF oM]
 exact .bind (f65_W t hv.n.2 hv.hdls p x hx ho hi) λr hr=> .pure hr
theorem f33_eq(x:ak)(i:Int):f33 x i=(!noD x.op&&decide (x.d=i)):=by
 unfold f33 noD
 simp only[al]
 cases decide (x.op=4)
 ·cases decide (x.op=6)
  ·cases decide (x.op=8)
   ·cases decide (x.op=27)
    ·cases decide (x.op=28)
     ·cases decide (x.op=29)
      ·cases decide (x.op=30)
       ·cases decide (x.op=31)
        ·cases decide (x.op=32)
         ·cases decide (x.op=35)
          ·cases decide (x.op=37)
           ·cases decide (x.op=39)
            ·cases decide (x.op=40)
             ·cases decide (x.op=41)<;>rfl
             ·rfl
            ·rfl
           ·rfl
          ·rfl
         ·rfl
        ·rfl
       ·rfl
      ·rfl
     ·rfl
    ·rfl
   ·rfl
  ·rfl
 ·rfl
theorem f8_l2_eq(r:bj×(List Act)×Int×(List Int)×(List (List Int))×(List Int))(l:List Int)(k:Bool→Option Bool)(hl:l.length≤1000000):∀(n i:Nat)(z:Int)(b:Bool),z=(i:Int)→i≤l.length→l.length<n+i→f8_l2 r l k n b z=k (b||(l.drop i).any λv=>decide (v=r.1.pc))
 |0,i,z,b,_,_,h=>oM
 |n+1,i,z,b,hz,hi,h=>by
  subst hz
  rw[f8_l2]
  by_cases hh:i<l.length
  ·rw[l8 hh,cdT,aQ hh,w1 hh oM,aH hh,List.any_cons,bnS]
   have ih:=λb=>f8_l2_eq r l k hl n (i+1) _ b rfl oM oM
   cases b
   ·rw[cdF,bnS,ih,Bool.false_or]
   ·rw[cdT,bnS,ih,Bool.true_or,Bool.true_or]
  ·have ei:i=l.length:=oM
   subst ei
   rw[l9,cdF,List.drop_eq_nil_of_le (Nat.le_refl _)]
   cases b<;>rfl
theorem f8_l3_eq(c:Nat→Int)(r:bj×(List Act)×Int×(List Int)×(List (List Int))×(List Int))(x:ak)(b:Bool)(k:Unit→Option Bool)(hk:∀j:Nat,j<16→(b=true→r.1.r j=0)∧(b=false→f33 x (j:Int)=false→r.1.r j=c j)):∀(n i:Nat)(z:Int),z=(i:Int)→i≤16→16<n+i→f8_l3 c r x b k n z=k ()
 |0,i,z,_,_,h=>oM
 |n+1,i,z,hz,hi,h=>by
  subst hz
  rw[f8_l3]
  by_cases hh:i<16
  ·have hv:bh 16 (i:Int)=true:=jH oM
   obtain⟨h1,h2⟩:=hk i hh
   rw[dcT (by omega:(i:Int)<16),cdT,bH _ hv,bH _ hv,bH _ hv,Int.toNat_natCast,w64 oM oM]
   have ih:=f8_l3_eq c r x b k hk n (i+1) ((i:Int)+1) (by push_cast;rfl) oM oM
   cases b
   ·cases h3:f33 x (i:Int)
    ·rw[h2 rfl h3]
     simp only[cdF,bnS,Bool.not_false,Bool.true_and,cdT,decide_true,Bool.not_true]
     exact ih
    ·simp only[cdF,bnS,Bool.not_true,Bool.not_false,Bool.and_false]
     exact ih
   ·rw[h1 rfl]
    simp only[cdF,bnS,cdT,decide_true,Bool.not_true,Bool.false_and]
    exact ih
  ·rw[dcF (by omega:¬(i:Int)<16),cdF]
theorem f8_l5_eq(t:ao)(S:List (List Int))(o:Nat)(row:List Int)(y:Obj)(hr:S[o]? =some row)(hy:t.objs[o]? =some y)(hs:y.set_.length<9223372036854775808)(hf:∀v∈row,fits y v=true)(hl:row.length≤16384)(k:Unit→Option Bool):∀(n i:Nat)(z:Int),z=(i:Int)→i≤row.length→row.length<n+i→f8_l5 t S (o:Int) k n z=k ()
 |0,i,z,_,_,h=>oM
 |n+1,i,z,hz,hi,h=>by
  subst hz
  have e1:idx S (o:Int)=some row:=by
   obtain⟨g1,g2⟩:=giS.1 hr
   rw[aQ g1,g2]
  have e2:idx t.objs (o:Int)=some y:=by
   obtain⟨g1,g2⟩:=giS.1 hy
   rw[aQ g1,g2]
  rw[f8_l5,e1,bnS]
  by_cases hh:i<row.length
  ·rw[l8 hh,cdT,e2,bnS,bnS,aQ hh,bnS,f34_eq y _ hs,hf _ (List.getElem_mem hh),bnS,Bool.not_true,cdF,w1 hh oM]
   exact f8_l5_eq t S o row y hr hy hs hf hl k n (i+1) _ rfl oM oM
  ·have ei:i=row.length:=oM
   subst ei
   rw[l9,cdF]
theorem f8_l4_eq(t:ao)(S:List (List Int))(hS:S.length=t.objs.length)(hl:S.length≤4096)(hrow:∀r∈S,r.length≤16384)(hs:∀y∈t.objs,y.set_.length<9223372036854775808)(hF:FitS t.objs S)(k:Unit→Option Bool):∀(n i:Nat)(z:Int),z=(i:Int)→i≤S.length→S.length<n+i→f8_l4 t S k n z=k ()
 |0,i,z,_,_,h=>oM
 |n+1,i,z,hz,hi,h=>by
  subst hz
  rw[f8_l4]
  by_cases hh:i<S.length
  ·have h1:S[i]? =some S[i]:=geG hh
   have h2:t.objs[i]? =some (t.objs[i]'oM):=geG oM
   have hr:=hrow _ (List.getElem_mem hh)
   rw[l8 hh,cdT,al,f8_l5_eq t S i _ _ h1 h2 (hs _ (List.getElem_mem _)) (hF i _ _ h2 h1) hr _ 9223372036854775808 0 0 rfl (Nat.zero_le _) oM,w1 hh oM]
   exact f8_l4_eq t S hS hl hrow hs hF k n (i+1) _ rfl oM oM
  ·have ei:i=S.length:=oM
   subst ei
   rw[l9,cdF]
theorem qc{t:ao}(hv:VT t){o:Obj}(ho:o∈t.objs):fits o (p9 o)=true:=by
 unfold p9
 cases h:fits o 0
 ·rw[cdF]
  have hlo:=(hv.o ho).2.2.1
  unfold fits at h⊢
  cases hp:o.ptr
  ·rw[cdF,dcT (Int.le_refl _),dcT hlo];rfl
  ·rw[hp] at h;cases h
 ·exact h
theorem pW{t:ao}(hv:VT t):FitS t.objs (store t):=by
 have h0:FitS t.objs (t.objs.map de):=by
  intro i o r hy hr v hv'
  rw[List.getElem?_map,hy] at hr
  obtain rfl:=inS hr
  have:=List.eq_of_mem_replicate hv'
  rw[this]
  exact qc hv (List.mem_of_getElem? hy)
 have key:∀(L:List eO)(S:List (List Int)),(∀x∈L,iK t.objs x=true)→FitS t.objs S→FitS t.objs (L.foldl jP S):=by
  intro L
  induction L with
  |nil=>intro S _ h;exact h
  |cons x L ih=>
   intro S hL h
   refine ih _ (λy hy=>hL y (List.mem_cons_of_mem _ hy)) ?_
   have hx:=hL x List.mem_cons_self
   unfold iK at hx
   rw[Bool.and_eq_true] at hx
   have hx2:=hx.2
   cases hi:idx t.objs x.o with
   |none=>rw[hi] at hx2;cases hx2
   |some y=>
    rw[hi] at hx2
    have g0:=bB hi
    unfold jP
    intro i o r hy hr w hw
    by_cases e:x.o.toNat=i
    ·subst e
     rw[g0] at hy
     obtain rfl:=inS hy
     by_cases hlt:x.o.toNat<S.length
     ·rw[List.getElem?_set_self hlt] at hr
      obtain rfl:=inS hr
      rcases List.mem_or_eq_of_mem_set hw with hw|rfl
      ·have e1:S[x.o.toNat]? =some S[x.o.toNat]:=geG hlt
       rw[e1] at hw
       exact h _ _ _ g0 e1 w hw
      ·exact hx2
     ·rw[List.getElem?_eq_none (by rw[List.length_set];omega)] at hr
      cases hr
    ·rw[List.getElem?_set_ne e] at hr
     exact h i o r hy hr w hw
 exact key _ _ (fW _ _ hv.inits) h0
theorem lkE{κ α:Type}{k:κ}{f:κ→Option α}{v:Option α}(P:κ→Prop)(hk:P k)(hf:∀k',P k'→f k'=v):letk k f=v:=hf k hk
def A5:List Act→Bool
 |[a]=>decide (a.kind=5)
 |_=>false
theorem rzA(A:List Act)(x:ak)(R:Nat→Int)(ha:bh 16 x.a=true)(F:Bool→Option Bool)(b:Bool)(h:(A5 A||(decide (x.op=35)&& !decide (R (Int.toNat x.a)=0)))=b):
  (Option.bind (bif (decide ((List.length A:Int)=1)) then(Option.bind (idx A 0) λx327=>some (decide (x327.kind=5))) else some false) λb326=>
   Option.bind (bif b326 then some true else(Option.bind (bif (decide (x.op=35)) then(ay (bh 16 x.a)<|some (!decide ((R (Int.toNat x.a))=0))) else some false) λb329=>some b329)) F)=F b:=by
 have e:(bif (decide ((List.length A:Int)=1)) then(Option.bind (idx A 0) λx327=>some (decide (x327.kind=5))) else some false)=some (A5 A):=by
  match A with
  |[]=>rfl
  |[a]=>rfl
  |a::a'::l=>
   rw[dcF (by simp only[List.length_cons];omega)]
   rfl
 rw[e,bnS,bH _ ha]
 subst h
 cases A5 A
 ·cases decide (x.op=35)<;>rfl
 ·rfl
theorem wy_b{n:Nat}{mH:List an}{mE:Int}{tR:Nat→Int}{tP tX:Int}{x:ak}{R:Nat→Int}{P X D:Int}{A:List Act}(h:Wy n mH mE tR tP tX x R P X D A):
  ((A5 A||(decide (x.op=35)&& !decide (tR (Int.toNat x.a)=0)))=false∧Rd x tR R∧X=tX)∨((A5 A||(decide (x.op=35)&& !decide (tR (Int.toNat x.a)=0)))=true∧R=(λ_=>0)∧X≠0):=by
 rcases h.2 with h|h
 ·refine .inl ⟨?_,h.r,h.e⟩
  have e:A5 A=false:=by
   match A,h.k with
   |[],_=>rfl
   |[a],hk=>exact dcF (hk a rfl)
   |a::a'::l,_=>rfl
  rw[e,Bool.false_or]
  by_cases h35:x.op=35
  ·rw[dcT h35,dcT (h.c h35)];rfl
  ·rw[dcF h35];rfl
 ·refine .inr ⟨?_,h.r,h.e.1⟩
  rcases h.a with⟨a,rfl,hk,_⟩|⟨rfl,h35,h0⟩
  ·have e:A5 [a]=true:=dcT hk
   rw[e];rfl
  ·rw[dcT h35,dcF h0];rfl
theorem sw{x:ak}(hd:bh 16 x.d=true){tR R:Nat→Int}{b:Bool}(h:(b=false∧Rd x tR R)∨(b=true∧R=λ_=>0)):∀j:Nat,j<16→(b=true→R j=0)∧(b=false→f33 x (j:Int)=false→R j=tR j):=λj _=>by
 rcases h with⟨rfl,h⟩|⟨rfl,h⟩
 ·refine⟨λh=>(by cases h),λ_ h3=>?_⟩
  rcases h with rfl|⟨hn,v,rfl⟩
  ·rfl
  ·rw[f33_eq,hn,Bool.not_false,Bool.true_and] at h3
   have h3:=of_decide_eq_false h3
   have hd0:0≤x.d:=by
    by_cases h0:0≤x.d
    ·exact h0
    ·simp[bh,h0] at hd
   show c8 tR (Int.toNat x.d) v j=tR j
   unfold c8
   have:Nat.beq j (Int.toNat x.d)=false:=by
    cases hb:Nat.beq j (Int.toNat x.d) with
    |false=>rfl
    |true=>exact absurd (nbE hb) oM
   rw[this];rfl
 ·exact⟨λ_=>(by rw[h]),λh'=>absurd h' dC⟩
theorem f8_l1_eq(t:ao)(hs:Sz t)(hm:MayB t=true)(hv:VT t)(hn:SzN t)(steps:Int)(hst:0≤steps∧steps≤60)(r:Int×(List ak)×(List an)×(List Obj)×Int×(List Int)×(List (List Int))×(List Int))(h1:r.2.1=t.insns)(h2:r.2.2.1=t.handlers)(h3:r.2.2.2.1=t.objs)(h4:r.2.2.2.2.1=t.excs)(k)
  (hk:∀S U R p x d N,k S U R p x d N=some true):∀(n i:Nat)(z:Int)(S:List (List Int))(U N:List Int)(R:Nat→Int)(p x d:Int),z=(i:Int)→i≤60→60<n+i→KS t.objs S→FitS t.objs S→RI R→(∀v∈N,I64 v)→U.length≤i→f8_l1 t steps r k n z S U R p x d N=some true
 |0,i,z,_,_,_,_,_,_,_,_,_,h,_,_,_,_,_=>oM
 |n+1,i,z,S,U,N,R,p,x,d,hz,hi,h,hK,hF,hR,hN,hU=>by
  subst hz
  rw[f8_l1,w64 (x:=steps) oM oM]
  by_cases hh:(i:Int)<steps
  ·have hrow:=jJ hK.sh (ni hv)
   have hlen:=hK.sh.len
   have hob:=hv.objs
   have hMV:MV t.insns t.handlers t.objs S:=⟨hv.hdls,hK.sh.len,hv.sz.sets,(mv_of hv).i⟩
   obtain⟨q,e1,hx⟩:=f11_sat t.insns t.handlers t.objs t.excs N S U hMV oM (bj.mk R p x d)
   obtain⟨z2,q2,hy⟩:=f11_R t.insns t.handlers t.objs t.excs N S U hMV (by have:=hv.excs;omega) hn.n hK hN oM (bj.mk R p x d) hR
   obtain⟨z3,q3,hw⟩:=f11_W t.insns t.handlers t.objs t.excs N S U hMV hv.n.2 hv.excs.1 (bj.mk R p x d) hR hF (q6 hv) oM hn.n (λy hy h=>uw (hv.fits y hy) h)
   rw[e1] at q2 q3
   obtain rfl:=inS q2
   obtain rfl:=inS q3
   obtain⟨i1,i2,i3⟩:=hx.io
   have hp:=ub q.2.1
   have hN':∀v∈q.2.2.2.1,I64 v:=λv hv'=>hN v (by rw[←i1];exact List.mem_append_right _ hv')
   have hU':q.2.2.2.2.2.length≤i+1:=by rw[i2,List.length_append];omega
   have hrow':=jJ hy.2.sh (ni hv)
   have hlen':=hy.2.sh.len
   rw[dcT hh,cdT]
   refine lkE (λk'=>∀S U R p x d N (a0:Nat→Int)(a1 a2 a3 b0 b1 b2 b3 b4 b5 b6:Int),KS t.objs S→FitS t.objs S→RI R→(∀v∈N,I64 v)→U.length≤i+1→k' S U R p x d N a0 a1 a2 a3 b0 b1 b2 b3 b4 b5 b6=some true)
    (λS U R p x d N a0 a1 a2 a3 b0 b1 b2 b3 b4 b5 b6 g1 g2 g3 g4 g5=>f8_l1_eq t hs hm hv hn steps hst r h1 h2 h3 h4 k hk n (i+1) _ S U N R p x d (by rw[w64 oM oM];push_cast;rfl) oM oM g1 g2 g3 g4 g5) λk303 h303=>?_
   rw[h1,h2,h3,h4,f28_eq _ _ _ _ _ S _ hv.n.1 oM (λr hr=>by have:=hrow r hr;omega),bnS,e1,bnS,f28_eq _ _ _ _ _ q.2.2.2.2.1 _ hv.n.1 oM (λr hr=>by have:=hrow' r hr;omega),bnS]
   cases hE:decide (q.2.2.1=0)
   ·obtain⟨hq,hA,hS⟩:=hw.bad (of_decide_eq_false hE)
    rw[Bool.not_false,cdT,hq,hA,hS]
    show(Option.bind (bif true then(Option.bind (f29 S S) λr311=>some r311) else some false) λb310=>Option.bind (bif b310 then(Option.bind (f9) λr313=>some r313) else some false) λb312=>some b312)=some true
    rw[cdT,f29_same S oM (λr hr=>by have:=hrow r hr;omega),bnS,bnS,cdT,f9_ok]
    rfl
   ·obtain⟨y,hy0,ho,hrg,hex,hwy⟩:=hw.ok (of_decide_eq_true hE)
    have hy1:idx t.insns p=some y:=hy0
    have hp1:=bX hy1
    have hat:=wy_at hv hy1 hwy
    have hD:=hwy.1
    have c1:f30 t p=true:=by unfold f30;rw[dcT (show p≥0 from hp1.1),dcT hp1.2];rfl
    have hX: -2≤q.1.exc∧q.1.exc≤t.excs:=by
     rcases hwy.2 with g|g
     ·have e:q.1.exc=x:=g.e
      have hex': -2≤x∧x≤t.excs:=hex
      omega
     ·exact⟨g.e.2.1,g.e.2.2⟩
    have c2:f31 t q.1=true:=by
     unfold f31 f30
     rw[dcT (show q.1.pc≥0 from hat.1),dcT hat.2,dcT (show q.1.exc≥-2 from hX.1),dcT hX.2,dcT (show q.1.defer≥0 from hD.1),dcT hD.2]
     rfl
    have c3:decide ((List.length q.2.2.2.2.1:Int)=(List.length t.objs:Int))=true:=dcT oM
    rw[Bool.not_true,cdF,c1,c2,c3,Bool.not_true,Bool.or_self,Bool.or_self,cdF,hy1,bnS]
    obtain⟨l,hl,hl1,hl2⟩:=f32_W t hs hm hv p y hy1 ho
    rw[hl,bnS]
    refine lkE (λk'=>k' true=some true) ?_ λk317 h317=>?_
    ·rw[Bool.not_true,cdF]
     have hb:=wy_b hwy
     refine(rzA q.2.1 y R hrg.a _ _ rfl).trans ?_
     have hreg:∀j:Nat,j<16→((A5 q.2.1||(decide (y.op=35)&& !decide (R (Int.toNat y.a)=0)))=true→q.1.r j=0)∧((A5 q.2.1||(decide (y.op=35)&& !decide (R (Int.toNat y.a)=0)))=false→f33 y (j:Int)=false→q.1.r j=R j):=sw hrg.d (by
      rcases hb with⟨g1,g2,_⟩|⟨g1,g2,_⟩
      ·exact .inl ⟨g1,g2⟩
      ·exact .inr ⟨g1,g2⟩)
     have hexc:((!(A5 q.2.1||(decide (y.op=35)&& !decide (R (Int.toNat y.a)=0)))&& !decide (q.1.exc=x))||((A5 q.2.1||(decide (y.op=35)&& !decide (R (Int.toNat y.a)=0)))&&decide (q.1.exc=0)))=false:=by
      rcases hb with⟨g1,_,g3⟩|⟨g1,_,g3⟩
      ·have g1':(A5 q.2.1||(decide (y.op=35)&& !decide (R (Int.toNat y.a)=0)))=false:=g1
       have g3':q.1.exc=x:=g3
       rw[g1',g3',dcT rfl];rfl
      ·have g1':(A5 q.2.1||(decide (y.op=35)&& !decide (R (Int.toNat y.a)=0)))=true:=g1
       rw[g1',dcF g3];rfl
     generalize(A5 q.2.1||(decide (y.op=35)&& !decide (R (Int.toNat y.a)=0)))=b at hreg hexc
     refine lkE (λk'=>k' ()=some true) ?_ λk331 h331=>?_
     ·rw[hexc,cdF]
      refine lkE (λk'=>k' ()=some true) (h303 _ _ _ _ _ _ _ _ _ _ _ _ _ _ _ _ _ _ hy.2 hw.fit hy.1 hN' hU') λk341 h341=>?_
      rw[f8_l4_eq t q.2.2.2.2.1 hlen' oM hrow' hv.sz.sets hw.fit k341 _ 0 0 rfl (Nat.zero_le _) oM]
      exact h341
     ·rw[f8_l3_eq R q y b k331 hreg _ 0 0 rfl (Nat.zero_le _) oM]
      exact h331
    ·rw[f8_l2_eq q l k317 oM _ 0 0 false rfl (Nat.zero_le _) oM,Bool.false_or,List.drop_zero,List.any_eq_true.2 ⟨q.1.pc,hl2 _ (tU hwy),dcT rfl⟩]
     exact h317
  ·rw[dcF hh,cdF]
   exact hk _ _ _ _ _ _ _
theorem rh(t:ao)(in1:List Int)(r2:bj)(steps:Int)(hs:Sz t)(hn:SzN t)(hin:∀v∈in1,I64 v)(hr:RI r2.r)(hst:0≤steps):f8 t in1 r2 steps=some true:=by
 obtain⟨b,hb,_⟩:=f12_sat t
 unfold f8
 rw[hb,bnS]
 cases hc:(b||(decide ((List.length in1:Int)>200)))||(decide (steps>60))
 ·rw[cdF,f37_eq t hs,bnS]
  simp only[Bool.or_eq_false_iff,decide_eq_false_iff_not] at hc
  cases hm:MayB t
  ·rw[cdF]
   unfold f10b
   rw[f37_eq t hs,hm,bnS,Bool.not_false,cdT,bnS,show(!decide ((((),2):Unit×Int).2=0))=true from rfl,cdT,f9_ok,bnS]
  ·have hv:=ms hs hm
   rw[cdT,f10_eq t in1 hs hm oM,bnS]
   rw[show(!decide (((0:Int),t.insns,t.handlers,t.objs,t.excs,in1,store t,([]:List Int)).1=0))=false from rfl,cdF]
   refine lkE (λk=>∀S U R p x d N,k S U R p x d N=some true) (λS U R p x d N=>by rw[f9_ok];rfl) λk hk=>?_
   exact f8_l1_eq t hs hm hv hn steps ⟨hst,oM⟩ _ rfl rfl rfl rfl k hk _ 0 0 _ _ _ _ _ _ _ rfl oM oM (qM hv hn) (pW hv) hr hin sM
 ·rw[cdT,f9_ok];rfl
end Go.Proofs.YtkbahggepncliaaGreatDoor
