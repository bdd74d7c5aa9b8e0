/- Part of the proof. -/
import Derived.KernelRfl
import Derived.Test.YtkbpoeellidgeaaGreatDoorO
set_option linter.unusedVariables false
set_option linter.unusedSimpArgs false
set_option linter.unusedSectionVars false
set_option linter.unnecessarySimpa false
set_option maxRecDepth 10000
namespace Go.Proofs.YtkbpoeellidgeaaGreatDoor
open Go Go.Sk
theorem w64{x:Int}(h1: -9223372036854775808≤x)(h2:x≤9223372036854775807):IntKind.i64.wrap x=x:=by
 rw[IntKind.wrap_i64];omega
theorem ap{α β:Sort _}(k:α)(f:α→β):letk k f=f k:=rfl
theorem aA{α:Type}{L:List α}{i:Nat}(h:i<L.length):idx L (i:Int)=some L[i]:=by
 unfold idx
 rw[dcT (Int.natCast_nonneg i)]
 simp[h]
theorem c8{α:Type}{L:List α}{i:Int}(h:¬(0≤i∧i<L.length)):idx L i=none:=by
 unfold idx
 by_cases h0:0≤i
 ·rw[dcT h0,cdT]
  exact List.getElem?_eq_none oM
 ·rw[dcF h0,cdF]
theorem cm{α:Type}{L:List α}{i:Int}{x:α}(h:idx L i=some x):0≤i∧i<L.length:=⟨af h,eF h⟩
theorem aE{α:Type}{L:List α}{i:Int}(h:0≤i∧i<L.length):∃x,idx L i=some x∧x∈L:=by
 obtain⟨n,rfl⟩:=Int.eq_ofNat_of_zero_le h.1
 exact⟨_,aA (show n<L.length by omega),List.getElem_mem _⟩
theorem cg{α:Type}{L:List α}{i:Int}{x:α}(h:idx L i=some x):x∈L:=List.mem_of_getElem? (aU h)
theorem aK{α:Type}{L:List α}{i:Nat}(h:i<L.length):L.drop i=L[i]::L.drop (i+1):=List.drop_eq_getElem_cons h
theorem bx{α:Type}{c:Bool}(o:Option α)(h:c=true):aL c o=o:=by rw[h];rfl
theorem rT{κ α:Type}[DecidableEq κ](m:List (κ×α))(k:κ)(v:α)(x:κ):bH (bI m k v) x=if k=x then some v else bH m x:=by
 induction m with
 |nil=>simp[bI,bH]
 |cons p r ih=>
  unfold bI
  by_cases h:p.1=k
  ·rw[if_pos h]
   unfold bH
   by_cases hk:k=x
   ·simp[hk]
   ·simp[hk,h]
  ·rw[if_neg h]
   unfold bH
   rw[ih]
   by_cases hk:p.1=x
   ·have:¬k=x:=λe=>h (by rw[hk,e])
    simp[hk,this]
   ·simp[hk]
def inM{κ:Type}[DecidableEq κ](m:List (κ×Bool))(x:κ):Bool:=Option.getD (bH m x) false
theorem nu{κ:Type}[DecidableEq κ](m:List (κ×Bool))(k x:κ):inM (bI m k true) x=(decide (k=x)||inM m x):=by
 unfold inM
 rw[rT]
 by_cases h:k=x<;>simp[h]
theorem f104_l1_eq(L:List bO)(cb:bO→Option Bool)(p:bO→Bool)(hl:L.length<9223372036854775808):∀(n i:Nat)(z:Int),z=(i:Int)→i≤L.length→L.length<n+i→(∀x∈L.drop i,cb x=some (p x))→∃r,f104_l1 L cb (λ_=>some (-1)) n z=some r∧decide (r≥0)=(L.drop i).any p
 |0,i,z,_,_,h,_=>oM
 |n+1,i,z,hz,hi,h,hp=>by
  subst hz
  rw[f104_l1]
  by_cases hh:i<L.length
  ·rw[aK hh] at hp⊢
   rw[dcT (by omega:(i:Int)<(L.length:Int)),cdT,aA hh,bnS,hp _ List.mem_cons_self,bnS,List.any_cons]
   cases hc:p L[i]
   ·rw[cdF,w64 oM oM,Bool.false_or]
    exact f104_l1_eq L cb p hl n (i+1) _ (by push_cast;rfl) oM oM (λx hx=>hp x (List.mem_cons_of_mem _ hx))
   ·exact⟨_,rfl,by rw[Bool.true_or];exact dcT oM⟩
  ·rw[dcF (by omega:¬(i:Int)<(L.length:Int)),cdF,List.drop_eq_nil_of_le oM]
   exact⟨_,rfl,rfl⟩
theorem f104_eq(L:List bO)(cb:bO→Option Bool)(p:bO→Bool)(hl:L.length<9223372036854775808)(hp:∀x∈L,cb x=some (p x)):∃r,f104 L cb=some r∧decide (r≥0)=L.any p:=by
 unfold f104
 rw[ap]
 exact f104_l1_eq L cb p hl _ 0 0 rfl (Nat.zero_le _) oM hp
theorem f70_eq(L:List bO)(cb:bO→Option Bool)(p:bO→Bool)(hl:L.length<9223372036854775808)(hp:∀x∈L,cb x=some (p x)):f70 L cb=some (L.any p):=by
 obtain⟨r,h1,h2⟩:=f104_eq L cb p hl hp
 unfold f70
 rw[h1,bnS,h2]
theorem f113_l1_eq(L:List Int)(cb:Int→Option Bool)(p:Int→Bool)(hl:L.length<9223372036854775808):∀(n i:Nat)(z:Int),z=(i:Int)→i≤L.length→L.length<n+i→(∀x∈L.drop i,cb x=some (p x))→∃r,f113_l1 L cb (λ_=>some (-1)) n z=some r∧decide (r≥0)=(L.drop i).any p
 |0,i,z,_,_,h,_=>oM
 |n+1,i,z,hz,hi,h,hp=>by
  subst hz
  rw[f113_l1]
  by_cases hh:i<L.length
  ·rw[aK hh] at hp⊢
   rw[dcT (by omega:(i:Int)<(L.length:Int)),cdT,aA hh,bnS,hp _ List.mem_cons_self,bnS,List.any_cons]
   cases hc:p L[i]
   ·rw[cdF,w64 oM oM,Bool.false_or]
    exact f113_l1_eq L cb p hl n (i+1) _ (by push_cast;rfl) oM oM (λx hx=>hp x (List.mem_cons_of_mem _ hx))
   ·exact⟨_,rfl,by rw[Bool.true_or];exact dcT oM⟩
  ·rw[dcF (by omega:¬(i:Int)<(L.length:Int)),cdF,List.drop_eq_nil_of_le oM]
   exact⟨_,rfl,rfl⟩
theorem f113_eq(L:List Int)(cb:Int→Option Bool)(p:Int→Bool)(hl:L.length<9223372036854775808)(hp:∀x∈L,cb x=some (p x)):∃r,f113 L cb=some r∧decide (r≥0)=L.any p:=by
 unfold f113
 rw[ap]
 exact f113_l1_eq L cb p hl _ 0 0 rfl (Nat.zero_le _) oM hp
theorem f85_eq(L:List Int)(cb:Int→Option Bool)(p:Int→Bool)(hl:L.length<9223372036854775808)(hp:∀x∈L,cb x=some (p x)):f85 L cb=some (L.any p):=by
 obtain⟨r,h1,h2⟩:=f113_eq L cb p hl hp
 unfold f85
 rw[h1,bnS,h2]
theorem f80_l1_eq(L:List ao)(cb:ao→Option Bool)(p:ao→Bool)(hl:L.length<9223372036854775808):∀(n i:Nat)(z:Int),z=(i:Int)→i≤L.length→L.length<n+i→(∀x∈L.drop i,cb x=some (p x))→∃r,f80_l1 L cb (λ_=>some (-1)) n z=some r∧decide (r≥0)=(L.drop i).any p
 |0,i,z,_,_,h,_=>oM
 |n+1,i,z,hz,hi,h,hp=>by
  subst hz
  rw[f80_l1]
  by_cases hh:i<L.length
  ·rw[aK hh] at hp⊢
   rw[dcT (by omega:(i:Int)<(L.length:Int)),cdT,aA hh,bnS,hp _ List.mem_cons_self,bnS,List.any_cons]
   cases hc:p L[i]
   ·rw[cdF,w64 oM oM,Bool.false_or]
    exact f80_l1_eq L cb p hl n (i+1) _ (by push_cast;rfl) oM oM (λx hx=>hp x (List.mem_cons_of_mem _ hx))
   ·exact⟨_,rfl,by rw[Bool.true_or];exact dcT oM⟩
  ·rw[dcF (by omega:¬(i:Int)<(L.length:Int)),cdF,List.drop_eq_nil_of_le oM]
   exact⟨_,rfl,rfl⟩
theorem f80_eq(L:List ao)(cb:ao→Option Bool)(p:ao→Bool)(hl:L.length<9223372036854775808)(hp:∀x∈L,cb x=some (p x)):∃r,f80 L cb=some r∧decide (r≥0)=L.any p:=by
 unfold f80
 rw[ap]
 exact f80_l1_eq L cb p hl _ 0 0 rfl (Nat.zero_le _) oM hp
theorem f52_eq(L:List ao)(cb:ao→Option Bool)(p:ao→Bool)(hl:L.length<9223372036854775808)(hp:∀x∈L,cb x=some (p x)):f52 L cb=some (L.any p):=by
 obtain⟨r,h1,h2⟩:=f80_eq L cb p hl hp
 unfold f52
 rw[h1,bnS,h2]
def spot(os:List Obj)(o from_ many:Int):Bool:=match idx os o with
 |some x=>decide (0≤from_)&&decide (from_≤IntKind.i64.wrap (x.size - many))
 |none=>false
theorem f68_eq(t:al)(o f m:Int):f68 ⟨t⟩ o f m=some (spot t.objs o f m):=by
 unfold f68 spot
 by_cases h:0≤o∧o<t.objs.length
 ·obtain⟨x,hx,_⟩:=aE h
  dsimp only
  rw[hx,dcT (show o≥0 from h.1),dcT h.2]
  by_cases hf:0≤f
  ·rw[dcT (show f≥0 from hf)];rfl
  ·rw[dcF (show¬f≥0 from hf)];rfl
 ·dsimp only
  rw[c8 h]
  have:(decide (o≥0)&&decide (o<(t.objs.length:Int)))=false:=by
   rw[Bool.and_eq_false_iff]
   simp only[decide_eq_false_iff_not]
   omega
  rw[this];rfl
theorem ep{os:List Obj}{o f m:Int}(h:spot os o f m=true):∃x,idx os o=some x∧0≤f∧f≤IntKind.i64.wrap (x.size - m):=by
 unfold spot at h
 cases hx:idx os o with
 |none=>rw[hx] at h;cases h
 |some x=>
  rw[hx] at h
  simp only[Bool.and_eq_true,decide_eq_true_eq] at h
  exact⟨x,rfl,h⟩
def fits(o:Obj)(v:Int):Bool:=bif o.ptr then decide (v=0)||o.set_.any (λn=>f86 n v) else decide (v≥o.lo)&&decide (v≤o.hi)
theorem f55_eq(o:Obj)(v:Int)(hl:o.set_.length<9223372036854775808):f55 o v=some (fits o v):=by
 unfold f55 fits
 cases hp:o.ptr
 ·rfl
 ·rw[cdT,cdT]
  by_cases hv:v=0
  ·rw[dcT hv];rfl
  ·rw[dcF hv,f85_eq _ _ (λn=>f86 n v) hl λ_ _=>rfl];rfl
def aim(os:List Obj)(x:Int):Bool:=match idx os x with
 |some y=>decide (y.size=1)&& !y.ptr
 |none=>false
def fx(os:List Obj):Int→List Int→Bool
 |_,[]=>true
 |last,x::r=>decide (last<x)&&aim os x&&fx os x r
def d5(os:List Obj)(o:Obj):Bool:=
 !((decide (o.size<1)||decide (o.size>16384))||decide (o.lo>o.hi))&&bif !o.ptr then decide ((o.set_.length:Int)=0) else fx os (-1) o.set_&&(decide (o.lo=0)&&decide (o.hi=0))
theorem f67_l1_eq(t:al)(o:Obj)(r:Option Bool)(hl:o.set_.length<9223372036854775808):∀(n i:Nat)(z last:Int),z=(i:Int)→i≤o.set_.length→o.set_.length<n+i→-1≤last→
  f67_l1 ⟨t⟩ o (λ_=>r) n last z=bif fx t.objs last (o.set_.drop i) then r else some false
 |0,i,z,last,_,_,h,_=>oM
 |n+1,i,z,last,hz,hi,h,hla=>by
  subst hz
  rw[f67_l1]
  by_cases hh:i<o.set_.length
  ·rw[aK hh,fx]
   rw[dcT (by omega:(i:Int)<(o.set_.length:Int)),cdT,aA hh,bnS]
   generalize o.set_[i]=x
   dsimp only
   by_cases h1:last<x
   ·rw[dcT h1,dcF (show¬x≤last by omega),Bool.false_or,Bool.true_and]
    unfold aim
    by_cases h2:x<t.objs.length
    ·obtain⟨y,hy,_⟩:=aE (L:=t.objs) (i:=x) oM
     rw[dcF (show¬x≥(t.objs.length:Int) by omega),cdF,hy]
     simp only[bnS]
     by_cases h3:y.size=1
     ·rw[dcT h3]
      cases h4:y.ptr
      ·rw[w64 oM oM]
       exact f67_l1_eq t o r hl n (i+1) _ x (by push_cast;rfl) oM oM oM
      ·rfl
     ·rw[dcF h3];rfl
    ·rw[c8 oM,dcT (show x≥(t.objs.length:Int) by omega)];rfl
   ·rw[dcF h1,dcT (show x≤last by omega)];rfl
  ·rw[dcF (by omega:¬(i:Int)<(o.set_.length:Int)),cdF,List.drop_eq_nil_of_le oM]
   rfl
theorem f67_eq(t:al)(o:Obj)(hl:o.set_.length<9223372036854775808):f67 ⟨t⟩ o=some (d5 t.objs o):=by
 unfold f67 d5
 cases h1:(decide (o.size<1)||decide (o.size>16384))||decide (o.lo>o.hi)
 ·rw[cdF,ap,Bool.not_false,Bool.true_and]
  cases h2:o.ptr
  ·rfl
  ·rw[Bool.not_true,cdF,cdF,f67_l1_eq t o _ hl _ 0 0 (-1) rfl (Nat.zero_le _) oM oM,List.drop_zero]
   cases fx t.objs (-1) o.set_<;>rfl
 ·rfl
def m6(n:Int)(L:List Obj):Int:=L.foldl (λn x=>IntKind.i64.wrap (n+x.size)) n
theorem f44_l1_eq(t:al)(k:Int→Option Bool)(hl:t.objs.length<9223372036854775808)(hs:∀o∈t.objs,o.set_.length<9223372036854775808):∀(n i:Nat)(z a:Int),z=(i:Int)→i≤t.objs.length→t.objs.length<n+i→
  f44_l1 ⟨t⟩ k n a z=bif (t.objs.drop i).all (d5 t.objs) then k (m6 a (t.objs.drop i)) else some false
 |0,i,z,a,_,_,h=>oM
 |n+1,i,z,a,hz,hi,h=>by
  subst hz
  rw[f44_l1]
  dsimp only
  by_cases hh:i<t.objs.length
  ·rw[aK hh,List.all_cons,dcT (by omega:(i:Int)<(t.objs.length:Int)),cdT,aA hh,bnS,f67_eq t _ (hs _ (List.getElem_mem _)),bnS,w64 (x:=(i:Int)+1) oM oM]
   cases hc:d5 t.objs t.objs[i]
   ·rfl
   ·rw[Bool.not_true,cdF,Bool.true_and,f44_l1_eq t k hl hs n (i+1) _ _ (by push_cast;rfl) oM oM]
    rfl
  ·rw[dcF (by omega:¬(i:Int)<(t.objs.length:Int)),cdF,List.drop_eq_nil_of_le oM]
   rfl
def dm(os:List Obj)(x:bZ):Bool:=spot os x.o x.slot 1&&(match idx os x.o with|some y=>fits y x.v|none=>false)
def dg(os:List Obj):List ((Int×Int)×Bool)→List bZ→Bool
 |_,[]=>true
 |m,x::r=>(!(inM m (x.o,x.slot)))&&dm os x&&dg os (bI m (x.o,x.slot) true) r
theorem f44_l2_eq(t:al)(r:Option Bool)(hl:t.inits.length<9223372036854775808)(hs:∀o∈t.objs,o.set_.length<9223372036854775808):∀(n i:Nat)(z:Int)(m:List ((Int×Int)×Bool)),z=(i:Int)→i≤t.inits.length→t.inits.length<n+i→
  f44_l2 ⟨t⟩ (λ_=>r) n z m=bif dg t.objs m (t.inits.drop i) then r else some false
 |0,i,z,m,_,_,h=>oM
 |n+1,i,z,m,hz,hi,h=>by
  subst hz
  rw[f44_l2]
  dsimp only
  by_cases hh:i<t.inits.length
  ·rw[aK hh,dg,dcT (by omega:(i:Int)<(t.inits.length:Int)),cdT,aA hh,bnS]
   generalize t.inits[i]=x
   rw[f68_eq,w64 oM oM,f44_l2_eq t r hl hs n (i+1) _ _ (by push_cast;rfl) oM oM]
   show Option.bind (bif inM m (x.o,x.slot) then _ else _) _=_
   cases hm:inM m (x.o,x.slot)
   ·unfold dm
    cases hsp:spot t.objs x.o x.slot 1
    ·rfl
    ·obtain⟨y,hy,_⟩:=ep hsp
     rw[hy]
     simp only[Bool.not_false,Bool.not_true,bnS,cdF,Bool.true_and]
     rw[f55_eq _ _ (hs _ (cg hy))]
     cases fits y x.v<;>rfl
   ·rfl
  ·rw[dcF (by omega:¬(i:Int)<(t.inits.length:Int)),cdF,List.drop_eq_nil_of_le oM]
   rfl
def gO(t:al):Bool:= !((decide ((t.objs.length:Int)>4096)||decide (t.excs<4))||decide (t.excs>64))&&(t.objs.all (d5 t.objs)&&(dg t.objs [] t.inits&&decide (m6 0 t.objs≤65536)))
theorem f44_eq(t:al)(hl:t.inits.length<9223372036854775808)(hs:∀o∈t.objs,o.set_.length<9223372036854775808):f44 ⟨t⟩=some (gO t):=by
 unfold f44 gO
 dsimp only
 cases h1:(decide ((t.objs.length:Int)>4096)||decide (t.excs<4))||decide (t.excs>64)
 ·have hol:(t.objs.length:Int)≤4096:=by
   simp only[Bool.or_eq_false_iff,decide_eq_false_iff_not] at h1
   omega
  rw[cdF,ap,f44_l1_eq t _ oM hs _ 0 0 0 rfl (Nat.zero_le _) oM,ap,f44_l2_eq t _ hl hs _ 0 0 [] rfl (Nat.zero_le _) oM]
  simp only[List.drop_zero]
  cases t.objs.all (d5 t.objs)<;>cases dg t.objs [] t.inits<;>rfl
 ·rfl
def at1(t:al)(a:Int):Bool:=decide (a≥0)&&decide (a<(t.insns.length:Int))
theorem f69_eq(t:al)(a:Int):f69 ⟨t⟩ a=at1 t a:=rfl
theorem eP{t:al}{a:Int}:at1 t a=true↔0≤a∧a<(t.insns.length:Int):=by
 unfold at1;simp only[Bool.and_eq_true,decide_eq_true_eq,ge_iff_le]
def nl(os:List Obj)(x:Int):Bool:=match idx os x with
 |some y=>decide (y.size=1)
 |none=>false
theorem f105_eq(t:al)(x:Int):f105 x ⟨t⟩=some (!(nl t.objs x)):=by
 unfold f105 nl
 dsimp only
 by_cases h:0≤x∧x<t.objs.length
 ·obtain⟨y,hy,_⟩:=aE h
  rw[hy,dcF (show¬x<0 by omega),dcF (show¬x≥(t.objs.length:Int) by omega)]
  rfl
 ·rw[c8 h]
  have:(decide (x<0)||decide (x≥(t.objs.length:Int)))=true:=by
   rw[Bool.or_eq_true]
   simp only[decide_eq_true_eq]
   omega
  rw[this];rfl
def dF(os:List Obj)(l:List Int):Bool:=decide ((l.length:Int)≤8)&&l.all (nl os)
theorem rb{α:Type}(p:α→Bool)(L:List α):(!(L.any λx=> !(p x)))=L.all p:=by
 induction L with
 |nil=>rfl
 |cons x L ih=>rw[List.any_cons,List.all_cons,←ih,Bool.not_or,Bool.not_not]
theorem f72_eq(t:al)(l:List Int):f72 ⟨t⟩ l=some (dF t.objs l):=by
 unfold f72 dF
 by_cases h:(l.length:Int)≤8
 ·rw[dcT h,cdT,f85_eq l _ (λx=> !(nl t.objs x)) oM λx _=>f105_eq t x,bnS,rb]
  rfl
 ·rw[dcF h];rfl
def d7(os:List Obj)(e:bO):Bool:=dF os e.ins&&dF os e.outs
theorem f71_eq(t:al)(e:bO):f71 e ⟨t⟩=some (!(d7 t.objs e)):=by
 unfold f71 d7
 rw[f72_eq,f72_eq]
 cases dF t.objs e.ins<;>cases dF t.objs e.outs<;>rfl
def dH(t:al)(x:bJ):Bool:= !(((((decide (x.prio<0)||decide (x.prio>31))||(!(at1 t x.at_)))||decide (x.deadline<0))||decide (x.deadline>2147483647))||decide ((x.entries.length:Int)>8))&&x.entries.all (d7 t.objs)
theorem f45_l1_eq(t:al)(r:Option Bool)(hl:t.tasks.length<9223372036854775808):∀(n i:Nat)(z:Int),z=(i:Int)→i≤t.tasks.length→t.tasks.length<n+i→
  f45_l1 ⟨t⟩ (λ_=>r) n z=bif (t.tasks.drop i).all (dH t) then r else some false
 |0,i,z,_,_,h=>oM
 |n+1,i,z,hz,hi,h=>by
  subst hz
  rw[f45_l1]
  dsimp only
  by_cases hh:i<t.tasks.length
  ·rw[aK hh,List.all_cons,dcT (by omega:(i:Int)<(t.tasks.length:Int)),cdT,aA hh,bnS,f69_eq]
   unfold dH
   generalize t.tasks[i]=x
   cases hc:((((decide (x.prio<0)||decide (x.prio>31))||(!(at1 t x.at_)))||decide (x.deadline<0))||decide (x.deadline>2147483647))||decide ((x.entries.length:Int)>8)
   ·have he:(x.entries.length:Int)≤8:=by
     simp only[Bool.or_eq_false_iff,decide_eq_false_iff_not] at hc
     omega
    rw[cdF,f70_eq x.entries _ (λe=> !(d7 t.objs e)) oM λe _=>f71_eq t e,bnS,←rb (d7 t.objs),w64 oM oM,f45_l1_eq t r hl n (i+1) _ (by push_cast;rfl) oM oM]
    cases x.entries.any λe=> !(d7 t.objs e)<;>rfl
   ·rfl
  ·rw[dcF (by omega:¬(i:Int)<(t.tasks.length:Int)),cdF,List.drop_eq_nil_of_le oM]
   rfl
def dG(t:al):Bool:= !(decide ((t.tasks.length:Int)<1)||decide ((t.tasks.length:Int)>32))&&t.tasks.all (dH t)
theorem f45_eq(t:al):f45 ⟨t⟩=some (dG t):=by
 unfold f45 dG
 dsimp only
 cases h1:decide ((t.tasks.length:Int)<1)||decide ((t.tasks.length:Int)>32)
 ·have hol:(t.tasks.length:Int)≤32:=by
   simp only[Bool.or_eq_false_iff,decide_eq_false_iff_not] at h1
   omega
  rw[cdF,ap,f45_l1_eq t _ oM _ 0 0 rfl (Nat.zero_le _) oM,List.drop_zero]
  cases t.tasks.all (dH t)<;>rfl
 ·rfl
def fJ(n:Int):List (Int×Bool)→List Int→Bool
 |_,[]=>true
 |m,x::r=>(!((decide (x<1)||decide (x≥n))||inM m x))&&fJ n (bI m x true) r
theorem f46_l2_eq(t:al)(l:List Int)(r:Option Bool)(hl:l.length<9223372036854775808):∀(n i:Nat)(z:Int)(m:List (Int×Bool)),z=(i:Int)→i≤l.length→l.length<n+i→
  f46_l2 ⟨t⟩ l (λ_=>r) n z m=bif fJ t.tasks.length m (l.drop i) then r else some false
 |0,i,z,m,_,_,h=>oM
 |n+1,i,z,m,hz,hi,h=>by
  subst hz
  rw[f46_l2]
  dsimp only
  by_cases hh:i<l.length
  ·rw[aK hh,fJ,dcT (by omega:(i:Int)<(l.length:Int)),cdT,aA hh,bnS,w64 oM oM,f46_l2_eq t l r hl n (i+1) _ _ (by push_cast;rfl) oM oM]
   show(bif (_||inM m l[i]) then _ else _)=_
   cases (decide (l[i]<1)||decide (l[i]≥(t.tasks.length:Int)))||inM m l[i]<;>rfl
  ·rw[dcF (by omega:¬(i:Int)<(l.length:Int)),cdF,List.drop_eq_nil_of_le oM]
   rfl
def jl(t:al)(l:List Int):Bool:=fJ t.tasks.length [] l&& !(decide ((l.length:Int)>32))
theorem f46_l1_eq(t:al)(r:Option Bool)(hl:t.lists.length<9223372036854775808)(hs:∀l∈t.lists,l.length<9223372036854775808):∀(n i:Nat)(z:Int),z=(i:Int)→i≤t.lists.length→t.lists.length<n+i→
  f46_l1 ⟨t⟩ (λ_=>r) n z=bif (t.lists.drop i).all (jl t) then r else some false
 |0,i,z,_,_,h=>oM
 |n+1,i,z,hz,hi,h=>by
  subst hz
  rw[f46_l1]
  dsimp only
  by_cases hh:i<t.lists.length
  ·rw[aK hh,List.all_cons,dcT (by omega:(i:Int)<(t.lists.length:Int)),cdT,ap,aA hh,bnS,ap]
   have hx:=hs _ (List.getElem_mem hh)
   generalize t.lists[i]=x at hx
   unfold jl
   rw[f46_l2_eq t x _ hx _ 0 0 [] rfl (Nat.zero_le _) oM,w64 oM oM,f46_l1_eq t r hl hs n (i+1) _ (by push_cast;rfl) oM oM,List.drop_zero]
   cases fJ t.tasks.length [] x<;>cases decide ((x.length:Int)>32)<;>rfl
  ·rw[dcF (by omega:¬(i:Int)<(t.lists.length:Int)),cdF,List.drop_eq_nil_of_le oM]
   rfl
def gS(t:al):Bool:= !(decide ((t.lists.length:Int)>4096))&&t.lists.all (jl t)
theorem f46_eq(t:al)(hs:∀l∈t.lists,l.length<9223372036854775808):f46 ⟨t⟩=some (gS t):=by
 unfold f46 gS
 dsimp only
 cases h1:decide ((t.lists.length:Int)>4096)
 ·have hol:(t.lists.length:Int)≤4096:=by
   simp only[decide_eq_false_iff_not] at h1
   omega
  rw[cdF,ap,f46_l1_eq t _ oM hs _ 0 0 rfl (Nat.zero_le _) oM,List.drop_zero]
  cases t.lists.all (jl t)<;>rfl
 ·rfl
def fT(t:al)(obj:Int)(a:jb):Bool:=
 at1 t a.at_&&(decide (a.guard= -1)||spot t.objs obj a.guard 1)&&
 bif decide (a.kind=1) then(decide (a.entry≥0)&&decide (a.entry<8))&&decide (a.time=0)
 else bif decide (a.kind=2)||decide (a.kind=3) then decide (a.entry=0)&&spot t.objs obj a.time 1
 else decide (a.kind=4)&&decide ((IntKind.i64.wrap (BitVec.ofInt IntKind.i64.bits a.entry|||BitVec.ofInt IntKind.i64.bits a.time).toNat)=0)
theorem f110_eq(t:al)(n o:Int):f110 n ⟨t⟩ o=some (spot t.objs o n 1):=by
 unfold f110
 rw[f68_eq];rfl
theorem f76_eq(t:al)(o:Int)(a:jb):f76 ⟨t⟩ o a=some (fT t o a):=by
 unfold f76 fT
 rw[f69_eq,f110_eq,f110_eq]
 simp only[ap,bnS]
 cases at1 t a.at_
 ·rfl
 ·cases decide (a.guard= -1)
  ·cases spot t.objs o a.guard 1
   ·rfl
   ·cases decide (a.kind=1)
    ·cases decide (a.kind=2)<;>cases decide (a.kind=3)<;>cases decide (a.entry=0)<;>rfl
    ·rfl
  ·cases decide (a.kind=1)
   ·cases decide (a.kind=2)<;>cases decide (a.kind=3)<;>cases decide (a.entry=0)<;>rfl
   ·rfl
theorem f48_l2_eq(t:al)(x:c4)(k:Int→Option Bool)(a b:Option Bool)(ha:∀i:Int,0≤i→k i=a)(hl:x.alts.length<9223372036854775808):∀(n i:Nat)(z:Int),z=(i:Int)→i≤x.alts.length→x.alts.length<n+i→
  f48_l2 ⟨t⟩ x k (λ_=>b) n z=bif (x.alts.drop i).all (fT t x.obj) then b else a
 |0,i,z,_,_,h=>oM
 |n+1,i,z,hz,hi,h=>by
  subst hz
  rw[f48_l2]
  by_cases hh:i<x.alts.length
  ·rw[aK hh,List.all_cons,dcT (by omega:(i:Int)<(x.alts.length:Int)),cdT,aA hh,bnS,ap,f76_eq,bnS]
   cases fT t x.obj x.alts[i]
   ·exact ha _ oM
   ·dsimp only
    rw[Bool.not_true,cdF,w64 oM oM,f48_l2_eq t x k a b ha hl n (i+1) _ (by push_cast;rfl) oM oM,Bool.true_and]
  ·rw[dcF (by omega:¬(i:Int)<(x.alts.length:Int)),cdF,List.drop_eq_nil_of_le oM]
   rfl
def gz(t:al)(x:c4):Bool:= !((((decide ((x.alts.length:Int)<1)||decide ((x.alts.length:Int)>16))||decide (x.obj<0))||decide (x.obj≥(t.objs.length:Int)))||((!decide (x.else_= -1))&&(!(at1 t x.else_))))&&x.alts.all (fT t x.obj)
theorem f48_l1_eq(t:al)(r:Option Bool)(hl:t.selects.length<9223372036854775808):∀(n i:Nat)(z:Int),z=(i:Int)→i≤t.selects.length→t.selects.length<n+i→
  f48_l1 ⟨t⟩ (λ_=>r) n z=bif (t.selects.drop i).all (gz t) then r else some false
 |0,i,z,_,_,h=>oM
 |n+1,i,z,hz,hi,h=>by
  subst hz
  rw[f48_l1]
  dsimp only
  by_cases hh:i<t.selects.length
  ·rw[aK hh,List.all_cons,dcT (by omega:(i:Int)<(t.selects.length:Int)),cdT,aA hh,bnS,f69_eq]
   generalize t.selects[i]=x
   unfold gz
   cases hc:(((decide ((x.alts.length:Int)<1)||decide ((x.alts.length:Int)>16))||decide (x.obj<0))||decide (x.obj≥(t.objs.length:Int)))||((!decide (x.else_= -1))&&(!(at1 t x.else_)))
   ·have he:(x.alts.length:Int)≤16:=by
     simp only[Bool.or_eq_false_iff,decide_eq_false_iff_not] at hc
     omega
    simp only[ap]
    rw[cdF,f48_l2_eq t x _ (some false) _ (λi h=>by rw[dcT (show i≥0 from h)];rfl) oM _ 0 0 rfl (Nat.zero_le _) oM,List.drop_zero,w64 oM oM,f48_l1_eq t r hl n (i+1) _ (by push_cast;rfl) oM oM]
    cases x.alts.all (fT t x.obj)<;>rfl
   ·rfl
  ·rw[dcF (by omega:¬(i:Int)<(t.selects.length:Int)),cdF,List.drop_eq_nil_of_le oM]
   rfl
def kh(t:al):Bool:= !(decide ((t.selects.length:Int)>1024))&&t.selects.all (gz t)
theorem f48_eq(t:al):f48 ⟨t⟩=some (kh t):=by
 unfold f48 kh
 dsimp only
 cases h1:decide ((t.selects.length:Int)>1024)
 ·have hol:(t.selects.length:Int)≤1024:=by
   simp only[decide_eq_false_iff_not] at h1
   omega
  rw[cdF,ap,f48_l1_eq t _ oM _ 0 0 rfl (Nat.zero_le _) oM,List.drop_zero]
  cases t.selects.all (gz t)<;>rfl
 ·rfl
def iT(h g:bB):Bool:= !((!(decide (g.from_≥h.from_)&&decide (g.to≤h.to)))&&decide ((if h.from_>g.from_ then h.from_ else g.from_)<(if h.to<g.to then h.to else g.to)))
theorem oa{α:Type}(L:List α)(i:Nat):bD L 0 (i:Int)=L.take i:=by simp[bD]
theorem f49_l2_eq(t:al)(j:Nat)(h0:bB)(r:Option Bool)(hj:j≤t.handlers.length)(hl:t.handlers.length<9223372036854775808):∀(n i:Nat)(z:Int),z=(i:Int)→i≤j→j<n+i→
  f49_l2 ⟨t⟩ (j:Int) (λ_ _ _ _=>r) h0 n z=bif ((t.handlers.take j).drop i).all (iT h0) then r else some false
 |0,i,z,_,_,h=>oM
 |n+1,i,z,hz,hi,h=>by
  subst hz
  have hL:(t.handlers.take j).length=j:=by rw[List.length_take];omega
  rw[f49_l2]
  dsimp only
  rw[oa]
  by_cases hh:i<(t.handlers.take j).length
  ·rw[aK hh,List.all_cons,dcT (by omega:(i:Int)<((t.handlers.take j).length:Int)),cdT,aA hh,bnS,w64 oM oM,f49_l2_eq t j h0 r hj hl n (i+1) _ (by push_cast;rfl) oM oM]
   generalize(t.handlers.take j)[i]=g
   unfold iT
   cases (!(decide (g.from_≥h0.from_)&&decide (g.to≤h0.to)))&&decide ((if h0.from_>g.from_ then h0.from_ else g.from_)<(if h0.to<g.to then h0.to else g.to))<;>rfl
  ·rw[dcF (by omega:¬(i:Int)<((t.handlers.take j).length:Int)),cdF,List.drop_eq_nil_of_le oM]
   rfl
def eG(t:al)(x:bB):Bool:=((((decide (x.from_<0))||(decide (x.from_≥x.to)))||(decide (x.to>(t.insns.length:Int))))||(!(at1 t x.at_)))||(f77 x x.at_)
def e8(t:al):List bB→List bB→Bool
 |_,[]=>true
 |P,x::r=>(!(eG t x))&&P.all (iT x)&&e8 t (P++ [x]) r
theorem f49_l1_eq(t:al)(r:Option Bool)(hl:t.handlers.length<9223372036854775808):∀(n i:Nat)(z:Int),z=(i:Int)→i≤t.handlers.length→t.handlers.length<n+i→
  f49_l1 ⟨t⟩ (λ_=>r) n z=bif e8 t (t.handlers.take i) (t.handlers.drop i) then r else some false
 |0,i,z,_,_,h=>oM
 |n+1,i,z,hz,hi,h=>by
  subst hz
  rw[f49_l1]
  dsimp only
  by_cases hh:i<t.handlers.length
  ·have hL:(t.handlers.take i).length=i:=by rw[List.length_take];omega
   rw[aK hh,e8,←List.take_succ_eq_append_getElem hh,dcT (by omega:(i:Int)<(t.handlers.length:Int)),cdT,ap,aA hh,bnS,f69_eq,bx _ (by simp[dD];omega),oa,w64 oM oM,f49_l2_eq t i _ _ oM hl _ 0 0 rfl (Nat.zero_le _) oM,f49_l1_eq t r hl n (i+1) _ (by push_cast;rfl) oM oM,List.drop_zero]
   generalize t.handlers[i]=x
   show(bif eG t x then _ else _)=_
   cases eG t x<;>cases (t.handlers.take i).all (iT x)<;>rfl
  ·rw[dcF (by omega:¬(i:Int)<(t.handlers.length:Int)),cdF,List.drop_eq_nil_of_le oM]
   rfl
def jo(t:al):Bool:= !(decide ((t.handlers.length:Int)>4096))&&e8 t [] t.handlers
theorem f49_eq(t:al):f49 ⟨t⟩=some (jo t):=by
 unfold f49 jo
 dsimp only
 cases h1:decide ((t.handlers.length:Int)>4096)
 ·have hol:(t.handlers.length:Int)≤4096:=by
   simp only[decide_eq_false_iff_not] at h1
   omega
  rw[cdF,ap,f49_l1_eq t _ oM _ 0 0 rfl (Nat.zero_le _) oM,List.drop_zero,List.take_zero]
  cases e8 t [] t.handlers<;>rfl
 ·rfl
def qc(t:al)(x:Loop):Bool:=(!((decide (x.head<0)||decide (x.head>x.back))||(!(at1 t x.back))))&&(match idx t.insns x.back with|some y=>f78 y x.head|none=>false)&& !(decide (x.bound<0)||decide (x.bound>2147483647))
def gQ(t:al):List (Int×Bool)→List Loop→Bool
 |_,[]=>true
 |m,x::r=>(!(inM m x.back))&&qc t x&&gQ t (bI m x.back true) r
theorem f50_l1_eq(t:al)(r:Option Bool)(hl:t.loops.length<9223372036854775808):∀(n i:Nat)(z:Int)(m:List (Int×Bool)),z=(i:Int)→i≤t.loops.length→t.loops.length<n+i→
  f50_l1 ⟨t⟩ (λ_=>r) n z m=bif gQ t m (t.loops.drop i) then r else some false
 |0,i,z,m,_,_,h=>oM
 |n+1,i,z,m,hz,hi,h=>by
  subst hz
  rw[f50_l1]
  dsimp only
  by_cases hh:i<t.loops.length
  ·rw[aK hh,gQ,dcT (by omega:(i:Int)<(t.loops.length:Int)),cdT,aA hh,bnS,f69_eq,w64 oM oM,f50_l1_eq t r hl n (i+1) _ _ (by push_cast;rfl) oM oM]
   generalize t.loops[i]=x
   unfold qc
   show Option.bind (bif (_||inM m x.back) then _ else _) _=_
   cases h1:(decide (x.head<0)||decide (x.head>x.back))||(!(at1 t x.back))
   ·cases inM m x.back
    ·have h2:at1 t x.back=true:=by
      cases h:at1 t x.back
      ·rw[h] at h1;simp at h1
      ·rfl
     obtain⟨y,hy,_⟩:=aE (eP.1 h2)
     rw[hy]
     simp only[bnS,Bool.or_self,cdF,Bool.not_false,Bool.true_and,Bool.or_assoc]
     cases f78 y x.head<;>cases (decide (x.bound<0)||decide (x.bound>2147483647))<;>rfl
    ·rfl
   ·cases inM m x.back<;>rfl
  ·rw[dcF (by omega:¬(i:Int)<(t.loops.length:Int)),cdF,List.drop_eq_nil_of_le oM]
   rfl
def oJ(t:al):Bool:= !(decide ((t.loops.length:Int)>4096))&&gQ t [] t.loops
theorem f50_eq(t:al):f50 ⟨t⟩=some (oJ t):=by
 unfold f50 oJ
 dsimp only
 cases h1:decide ((t.loops.length:Int)>4096)
 ·have hol:(t.loops.length:Int)≤4096:=by
   simp only[decide_eq_false_iff_not] at h1
   omega
  rw[cdF,ap,f50_l1_eq t _ oM _ 0 0 [] rfl (Nat.zero_le _) oM,List.drop_zero]
  cases gQ t [] t.loops<;>rfl
 ·rfl
def chk(t:al)(a:Int):Bool:=match idx t.insns a with
 |some x=>decide (x.op=27)||decide (x.op=28)
 |none=>false
theorem f79_eq(t:al)(a:Int):f79 ⟨t⟩ a=some (chk t a):=by
 unfold f79 chk
 rw[f69_eq]
 dsimp only
 cases h:at1 t a
 ·rw[c8 (λhh=>by rw[eP.2 hh] at h;cases h)];rfl
 ·obtain⟨y,hy,_⟩:=aE (eP.1 h)
  rw[hy]
  dsimp only[bnS,cdT]
  cases decide (y.op=27)<;>rfl
def gC(t:al):Int→List ef→Bool
 |_,[]=>true
 |last,x::r=>((decide (last<x.at_)&&chk t x.at_)&& !(decide (x.kind<1)||decide (x.kind>5)))&&gC t x.at_ r
theorem f51_l1_eq(t:al)(r:Option Bool)(hl:t.checks.length<9223372036854775808):∀(n i:Nat)(z last:Int),z=(i:Int)→i≤t.checks.length→t.checks.length<n+i→
  f51_l1 ⟨t⟩ (λ_=>r) n last z=bif gC t last (t.checks.drop i) then r else some false
 |0,i,z,last,_,_,h=>oM
 |n+1,i,z,last,hz,hi,h=>by
  subst hz
  rw[f51_l1]
  dsimp only
  by_cases hh:i<t.checks.length
  ·rw[aK hh,gC,dcT (by omega:(i:Int)<(t.checks.length:Int)),cdT,aA hh,bnS,f79_eq,w64 oM oM,f51_l1_eq t r hl n (i+1) _ _ (by push_cast;rfl) oM oM]
   generalize t.checks[i]=x
   by_cases h1:last<x.at_
   ·rw[dcT h1,dcF (show¬x.at_≤last by omega)]
    cases chk t x.at_<;>cases decide (x.kind<1)<;>cases decide (x.kind>5)<;>rfl
   ·rw[dcF h1,dcT (show x.at_≤last by omega)];rfl
  ·rw[dcF (by omega:¬(i:Int)<(t.checks.length:Int)),cdF,List.drop_eq_nil_of_le oM]
   rfl
theorem f51_eq(t:al)(hl:t.checks.length<9223372036854775808):f51 ⟨t⟩=some (gC t (-1) t.checks):=by
 unfold f51
 dsimp only
 rw[ap,f51_l1_eq t _ hl _ 0 0 (-1) rfl (Nat.zero_le _) oM,List.drop_zero]
 cases gC t (-1) t.checks<;>rfl
def co(os:List Obj)(ent:Int)(e:bc):Bool×Int×Int×Int×Int×Int:=
 bif decide (e.kind=1) then(true,0,0,e.n,0,0) else
 bif decide (e.kind=2) then(bif spot os e.o e.off 1&&(match idx os e.o with|some y=> !y.ptr|none=>false) then(true,0,0,0,e.o,e.off) else(false,0,0,0,0,0)) else
 bif decide (e.kind=14) then(decide (e.n≥0)&&decide (e.n<ent),0,0,e.n,0,0) else
 bif decide (e.kind=4) then(true,1,18,0,0,0) else
 bif decide (e.kind=5) then(true,2,(if(if 15<e.op then 15 else e.op)>7 then(if 15<e.op then 15 else e.op) else 7),0,0,0) else
 bif decide (e.kind=6)||decide (e.kind=7) then(true,2,0,0,0,0) else(false,0,0,0,0,0)
def dV(os:List Obj)(ent:Int)(e:bc):Bool:=
 ((((((((!(co os ent e).1)||(!decide ((List.length e.l:Int)=(co os ent e).2.1)))||(!decide (e.op=(co os ent e).2.2.1)))||(!decide (e.n=(co os ent e).2.2.2.1)))||(!decide (e.o=(co os ent e).2.2.2.2.1)))||(!decide (e.off=(co os ent e).2.2.2.2.2)))||(!decide (e.len=0)))||(!decide (e.lo=0)))||(!decide (e.hi=0))
def exL(rec:Int→bc→Bool×Int):List bc→Int→Bool×Int
 |[],l=>(true,l)
 |e::r,l=>bif (rec l e).1 then exL rec r (rec l e).2 else(false,(rec l e).2)
def exF(os:List Obj)(ent:Int):Nat→Int→Int→bc→Bool×Int
 |0,_,left,_=>(false,left)
 |n+1,deep,left,e=>
  bif (decide (IntKind.i64.wrap (left - 1)<0)||decide (deep>64))||dV os ent e then(false,IntKind.i64.wrap (left - 1))
  else exL (exF os ent n (deep+1)) e.l (IntKind.i64.wrap (left - 1))
theorem pN(os:List Obj)(ent:Int)(e:bc):(co os ent e).2.1≤2:=by
 unfold co
 cases decide (e.kind=1)<;>cases decide (e.kind=2)<;>cases decide (e.kind=14)<;>cases decide (e.kind=4)<;>cases decide (e.kind=5)<;>cases (decide (e.kind=6)||decide (e.kind=7))<;>simp<;>cases (spot os e.o e.off 1&&(match idx os e.o with|some y=> !y.ptr|none=>false))<;>simp
abbrev Rt:Type:=Bool×(List ao)×(List bB)×(List Loop)×(List c4)×(List (List Int))×(List Obj)×(List bZ)×Int×(List bJ)×(List eH)×(List ef)×Int×Int
abbrev Ret:Type:=(List ao)→(List bB)→(List Loop)→(List c4)→(List (List Int))→(List Obj)→(List bZ)→Int→(List bJ)→(List eH)→(List ef)→Int→Int→bc→Int→Option Rt
section
variable(v0:List ao)(v1:List bB)(v2:List Loop)(v3:List c4)(v4:List (List Int))(v5:List Obj)(v6:List bZ)(v7:Int)(v8:List bJ)(v9:List eH)(v10:List ef)(ent:Int)
def nj(z:Bool×Int):Option Rt:=some (z.1,v0,v1,v2,v3,v4,v5,v6,v7,v8,v9,v10,ent,z.2)
theorem f73s_l1_eq(rec:Ret)(g:Int→bc→Bool×Int)(e:bc)(deep:Int)
  (hrec:∀l x,rec v0 v1 v2 v3 v4 v5 v6 v7 v8 v9 v10 ent l x (IntKind.i64.wrap (deep+1))=nj v0 v1 v2 v3 v4 v5 v6 v7 v8 v9 v10 ent (g l x))
  (ka:Int→(List ao)→(List bB)→(List Loop)→(List c4)→(List (List Int))→(List Obj)→(List bZ)→Int→(List bJ)→(List eH)→(List ef)→Int→Int→Option Rt)
  (kb:(List ao)→(List bB)→(List Loop)→(List c4)→(List (List Int))→(List Obj)→(List bZ)→Int→(List bJ)→(List eH)→(List ef)→Int→Int→Option Rt)
  (ha:∀(i:Int) l,0≤i→ka i v0 v1 v2 v3 v4 v5 v6 v7 v8 v9 v10 ent l=nj v0 v1 v2 v3 v4 v5 v6 v7 v8 v9 v10 ent (false,l))
  (hb:∀l,kb v0 v1 v2 v3 v4 v5 v6 v7 v8 v9 v10 ent l=nj v0 v1 v2 v3 v4 v5 v6 v7 v8 v9 v10 ent (true,l))
  (hl:e.l.length<9223372036854775808):∀(n i:Nat)(z l:Int),z=(i:Int)→i≤e.l.length→e.l.length<n+i→
  f73s_l1 rec e deep ka kb n z v0 v1 v2 v3 v4 v5 v6 v7 v8 v9 v10 ent l=nj v0 v1 v2 v3 v4 v5 v6 v7 v8 v9 v10 ent (exL g (e.l.drop i) l)
 |0,i,z,l,_,_,h=>oM
 |n+1,i,z,l,hz,hi,h=>by
  subst hz
  rw[f73s_l1]
  by_cases hh:i<e.l.length
  ·rw[aK hh,exL,dcT (by omega:(i:Int)<(e.l.length:Int)),cdT,aA hh,bnS,ap,hrec]
   unfold nj
   dsimp only[bnS]
   cases (g l e.l[i]).1
   ·exact ha _ _ oM
   ·rw[Bool.not_true,cdF,w64 oM oM]
    exact f73s_l1_eq rec g e deep hrec ka kb ha hb hl n (i+1) _ _ (by push_cast;rfl) oM oM
  ·rw[dcF (by omega:¬(i:Int)<(e.l.length:Int)),cdF,List.drop_eq_nil_of_le oM]
   exact hb _
theorem f73s_eq(rec:Ret)(g:Int→bc→Bool×Int)(e:bc)(deep left:Int)
  (hrec:deep≤64→∀l x,rec v0 v1 v2 v3 v4 v5 v6 v7 v8 v9 v10 ent l x (IntKind.i64.wrap (deep+1))=nj v0 v1 v2 v3 v4 v5 v6 v7 v8 v9 v10 ent (g l x)):∀z,f73s rec v0 v1 v2 v3 v4 v5 v6 v7 v8 v9 v10 ent left e deep=z→
  z=nj v0 v1 v2 v3 v4 v5 v6 v7 v8 v9 v10 ent (bif (decide (IntKind.i64.wrap (left - 1)<0)||decide (deep>64))||dV v5 ent e then(false,IntKind.i64.wrap (left - 1)) else exL g e.l (IntKind.i64.wrap (left - 1))):=by
 intro z h
 unfold f73s at h
 obtain⟨K,hK,h⟩:=aB h
 have h':K (co v5 ent e).1 (co v5 ent e).2.1 (bc.mk e.kind (co v5 ent e).2.2.1 (co v5 ent e).2.2.2.1 (co v5 ent e).2.2.2.2.1 (co v5 ent e).2.2.2.2.2 0 0 0 []) (co v5 ent e).2.2.1 (co v5 ent e).2.2.2.1 (co v5 ent e).2.2.2.2.1 (co v5 ent e).2.2.2.2.2=z:=by
  rw[←h,ap]
  unfold co
  cases decide (e.kind=1)
  ·cases decide (e.kind=2)
   ·cases decide (e.kind=14)
    ·cases decide (e.kind=4)
     ·cases decide (e.kind=5)
      ·cases decide (e.kind=6)<;>cases decide (e.kind=7)<;>rfl
      ·rfl
     ·rfl
    ·cases decide (e.n≥0)<;>rfl
   ·rw[f68_eq]
    dsimp only[bnS,cdT,cdF]
    cases hs:spot v5 e.o e.off 1
    ·rfl
    ·obtain⟨y,hy,_⟩:=ep hs
     rw[hy]
     dsimp only[bnS,cdT,cdF]
     cases y.ptr<;>rfl
  ·rfl
 clear h
 rw[hK] at h'
 dsimp only at h'
 have hc:=pN v5 ent e
 have e1:(((((((((((decide (IntKind.i64.wrap (left - 1)<0))||(decide (deep>64)))||(!(co v5 ent e).1))||(!decide ((List.length e.l:Int)=(co v5 ent e).2.1)))||(!decide (e.op=(co v5 ent e).2.2.1)))||(!decide (e.n=(co v5 ent e).2.2.2.1)))||(!decide (e.o=(co v5 ent e).2.2.2.2.1)))||(!decide (e.off=(co v5 ent e).2.2.2.2.2)))||(!decide (e.len=0)))||(!decide (e.lo=0)))||(!decide (e.hi=0)))=((decide (IntKind.i64.wrap (left - 1)<0)||decide (deep>64))||dV v5 ent e):=by
  unfold dV
  simp only[Bool.or_assoc]
 rw[e1] at h'
 cases hbad:(decide (IntKind.i64.wrap (left - 1)<0)||decide (deep>64))||dV v5 ent e
 ·rw[hbad,cdF] at h'
  have hd:deep≤64:=by
   simp only[Bool.or_eq_false_iff,decide_eq_false_iff_not] at hbad
   omega
  have hlen:e.l.length≤2:=by
   simp only[Bool.or_eq_false_iff] at hbad
   have:=hbad.2
   unfold dV at this
   simp only[Bool.or_eq_false_iff,Bool.not_eq_false',decide_eq_true_eq] at this
   have:=this.1.1.1.1.1.1.1.2
   omega
  simp only[ap] at h'
  rw[f73s_l1_eq v0 v1 v2 v3 v4 v5 v6 v7 v8 v9 v10 ent rec g e deep (hrec hd) _ _ (λi l h0=>by rw[dcT (show i≥0 from h0)];rfl) (λl=>rfl) oM _ 0 0 _ rfl (Nat.zero_le _) oM,List.drop_zero] at h'
  rw[←h',cdF]
 ·rw[hbad,cdT] at h'
  rw[←h',cdT]
  rfl
theorem f73_eq:∀(n:Nat)(deep left:Int)(e:bc),1≤deep→deep≤65→66<n+deep→f73 n v0 v1 v2 v3 v4 v5 v6 v7 v8 v9 v10 ent left e deep=nj v0 v1 v2 v3 v4 v5 v6 v7 v8 v9 v10 ent (exF v5 ent n deep left e)
 |0,deep,left,e,h0,h1,h2=>oM
 |n+1,deep,left,e,h0,h1,h2=>by
  rw[f73,exF]
  exact f73s_eq v0 v1 v2 v3 v4 v5 v6 v7 v8 v9 v10 ent (f73 n) (exF v5 ent n (deep+1)) e deep left (λhd l x=>by
   rw[w64 oM oM]
   exact f73_eq n (deep+1) l x oM oM oM) _ rfl
end
def ku(t:al)(ent:Int)(e:bc):Bool:=(exF t.objs ent 66 1 256 e).1
theorem f47_l2_eq(t:al)(x:eH)(r:Option Bool)(hl:x.barriers.length<9223372036854775808):∀(n i:Nat)(z:Int),z=(i:Int)→i≤x.barriers.length→x.barriers.length<n+i→
  f47_l2 ⟨t⟩ (λ_ _=>r) x n z=bif (x.barriers.drop i).all (ku t x.barriers.length) then r else some false
 |0,i,z,_,_,h=>oM
 |n+1,i,z,hz,hi,h=>by
  subst hz
  rw[f47_l2]
  dsimp only
  by_cases hh:i<x.barriers.length
  ·rw[aK hh,List.all_cons,dcT (by omega:(i:Int)<(x.barriers.length:Int)),cdT,aA hh,bnS,f73_eq _ _ _ _ _ _ _ _ _ _ _ _ 66 1 256 _ oM oM oM,w64 oM oM,f47_l2_eq t x r hl n (i+1) _ (by push_cast;rfl) oM oM]
   unfold nj ku
   dsimp only[bnS]
   cases (exF t.objs x.barriers.length 66 1 256 x.barriers[i]).1<;>rfl
  ·rw[dcF (by omega:¬(i:Int)<(x.barriers.length:Int)),cdF,List.drop_eq_nil_of_le oM]
   rfl
def ge(t:al)(x:eH):Bool:= !((decide (x.ceiling<0)||decide (x.ceiling>31))||decide ((x.barriers.length:Int)>8))&&x.barriers.all (ku t x.barriers.length)
theorem f47_l1_eq(t:al)(r:Option Bool)(hl:t.prots.length<9223372036854775808):∀(n i:Nat)(z:Int),z=(i:Int)→i≤t.prots.length→t.prots.length<n+i→
  f47_l1 ⟨t⟩ (λ_=>r) n z=bif (t.prots.drop i).all (ge t) then r else some false
 |0,i,z,_,_,h=>oM
 |n+1,i,z,hz,hi,h=>by
  subst hz
  rw[f47_l1]
  dsimp only
  by_cases hh:i<t.prots.length
  ·rw[aK hh,List.all_cons,dcT (by omega:(i:Int)<(t.prots.length:Int)),cdT,ap,aA hh,bnS]
   generalize t.prots[i]=x
   unfold ge
   cases hc:(decide (x.ceiling<0)||decide (x.ceiling>31))||decide ((x.barriers.length:Int)>8)
   ·have he:(x.barriers.length:Int)≤8:=by
     simp only[Bool.or_eq_false_iff,decide_eq_false_iff_not] at hc
     omega
    rw[cdF,f47_l2_eq t x _ oM _ 0 0 rfl (Nat.zero_le _) oM,w64 oM oM,f47_l1_eq t r hl n (i+1) _ (by push_cast;rfl) oM oM,List.drop_zero]
    cases x.barriers.all (ku t x.barriers.length)<;>rfl
   ·rfl
  ·rw[dcF (by omega:¬(i:Int)<(t.prots.length:Int)),cdF,List.drop_eq_nil_of_le oM]
   rfl
def gL(t:al):Bool:=t.prots.all (ge t)&&decide ((t.prots.length:Int)≤32)
theorem f47_eq(t:al)(hl:t.prots.length<9223372036854775808):f47 ⟨t⟩=some (gL t):=by
 unfold f47 gL
 dsimp only
 rw[ap,f47_l1_eq t _ hl _ 0 0 rfl (Nat.zero_le _) oM,List.drop_zero]
 cases t.prots.all (ge t)<;>rfl
def prs(o:Int):Option (List ByteArray):=(f111 o).bind λr=>f127 r.1.fields
def ch(s:ByteArray):Int×Int:=((fE s 0).getD 0,(fE s 1).getD 0)
def jp(o:Int):List (Int×Int):=((prs o).getD []).map ch
theorem vU:∀k,k<57→(match prs ((k:Nat)+1:Int) with|some l=>Nat.blt l.length 100&&l.all λs=>(fE s 0).isSome&&(fE s 1).isSome|none=>false)=true:=by decide+kernel
theorem f111_ok:∀k,k<57→(match f111 ((k:Nat)+1:Int) with|some r=>r.2|none=>false)=true:=by decide+kernel
theorem f111_eq{o:Int}(h1:1≤o)(h2:o≤57):∃r,f111 o=some (r,true):=by
 obtain⟨k,rfl⟩:∃k:Nat,o=(k:Int)+1:=⟨(o - 1).toNat,oM⟩
 have:=f111_ok k oM
 cases h:f111 ((k:Int)+1) with
 |none=>rw[h] at this;cases this
 |some r=>rw[h] at this;exact⟨r.1,by dsimp only at this;rw[←this]⟩
theorem vV{o:Int}(h1:1≤o)(h2:o≤57):∃l,prs o=some l∧l.length<100∧∀s∈l,(∃c,fE s 0=some c)∧∃c,fE s 1=some c:=by
 obtain⟨k,rfl⟩:∃k:Nat,o=(k:Int)+1:=⟨(o - 1).toNat,oM⟩
 have:=vU k oM
 cases h:prs ((k:Int)+1) with
 |none=>rw[h] at this;cases this
 |some l=>
  rw[h] at this
  rw[Bool.and_eq_true] at this
  refine⟨l,rfl,by simpa using this.1,λs hs=>?_⟩
  have:=List.all_eq_true.1 this.2 s hs
  rw[Bool.and_eq_true] at this
  exact⟨Option.isSome_iff_exists.1 this.1,Option.isSome_iff_exists.1 this.2⟩
def rng(w v:Int):Bool:= !(decide (v<(f130 w).1)||decide (v>(f130 w).2))
def fl:List (Int×Int)→Int→Int→Int→Int→Int→Int→Bool
 |[],d,a,b,n,m,to=>(decide (d=0))&&((decide (a=0))&&((decide (b=0))&&((decide (n=0))&&((decide (m=0))&&((decide (to=0))&&true)))))
 |(c,w)::r,d,a,b,n,m,to=>
  bif decide (c=68) then rng w d&&fl r 0 a b n m to else
  bif decide (c=65) then rng w a&&fl r d 0 b n m to else
  bif decide (c=66) then rng w b&&fl r d a 0 n m to else
  bif decide (c=78) then rng w n&&fl r d a b 0 m to else
  bif decide (c=77) then rng w m&&fl r d a b n 0 to else rng w to&&fl r d a b n m 0
theorem f81_l1_eq(k1 k2 k3 k4 k5 k6:Int→Int→Int→Int→Int→Int→ByteArray→ByteArray→Int→Int→Int→Int→Option Bool)
  (h1:∀a b c d e f g h i j k l,k1 a b c d e f g h i j k l=some false)(h2:∀a b c d e f g h i j k l,k2 a b c d e f g h i j k l=some false)(h3:∀a b c d e f g h i j k l,k3 a b c d e f g h i j k l=some false)
  (h4:∀a b c d e f g h i j k l,k4 a b c d e f g h i j k l=some false)(h5:∀a b c d e f g h i j k l,k5 a b c d e f g h i j k l=some false)(h6:∀a b c d e f g h i j k l,k6 a b c d e f g h i j k l=some false)
  (k7:Int→Int→Int→Int→Int→Int→ByteArray→ByteArray→Option Bool)(h7:∀d a b n m to x y,k7 d a b n m to x y=some (fl [] d a b n m to))(r:hZ×Bool)(L:List ByteArray)(hL:∀s∈L,(∃c,fE s 0=some c)∧∃c,fE s 1=some c)(hl:L.length<9223372036854775808):
  ∀(n i:Nat)(z d a b vn m to:Int),z=(i:Int)→i≤L.length→L.length<n+i→f81_l1 k1 k2 k3 k4 k5 k6 k7 r L n z d a b vn m to=some (fl ((L.drop i).map ch) d a b vn m to)
 |0,i,z,_,_,_,_,_,_,_,_,h=>oM
 |n+1,i,z,d,a,b,vn,m,to,hz,hi,h=>by
  subst hz
  rw[f81_l1]
  by_cases hh:i<L.length
  ·obtain⟨⟨c,hc⟩,w,hw⟩:=hL _ (List.getElem_mem hh)
   have ih:=λd a b vn m to=>f81_l1_eq k1 k2 k3 k4 k5 k6 h1 h2 h3 h4 h5 h6 k7 h7 r L hL hl n (i+1) _ d a b vn m to (by push_cast;rfl) oM oM
   have he:ch L[i]=(c,w):=by unfold ch;rw[hc,hw];rfl
   rw[aK hh,List.map_cons,he,fl,dcT (by omega:(i:Int)<(L.length:Int)),cdT,aA hh,bnS,hc,bnS,w64 oM oM]
   simp only[ap,hw,bnS,h1,h2,h3,h4,h5,h6,ih]
   unfold rng
   cases decide (c=68)
   ·cases decide (c=65)
    ·cases decide (c=66)
     ·cases decide (c=78)
      ·cases decide (c=77)
       ·cases (decide (to<(f130 w).1)||decide (to>(f130 w).2))<;>rfl
       ·cases (decide (m<(f130 w).1)||decide (m>(f130 w).2))<;>rfl
      ·cases (decide (vn<(f130 w).1)||decide (vn>(f130 w).2))<;>rfl
     ·cases (decide (b<(f130 w).1)||decide (b>(f130 w).2))<;>rfl
    ·cases (decide (a<(f130 w).1)||decide (a>(f130 w).2))<;>rfl
   ·cases (decide (d<(f130 w).1)||decide (d>(f130 w).2))<;>rfl
  ·rw[dcF (by omega:¬(i:Int)<(L.length:Int)),cdF,List.drop_eq_nil_of_le oM,h7]
   rfl
def fR(x:ao):Bool:= !((!(decide (1≤x.op)&&decide (x.op≤57)))||(decide (x.op=27)&&decide (x.n>x.m)))&&(!((decide (x.op=37)&&decide ((IntKind.u8.wrap x.n)=6))&&(!decide (x.m=0)))&&fl (jp x.op) x.d x.a x.b x.n x.m x.to)
theorem f81_eq(x:ao)(ho:0≤x.op∧x.op≤255):f81 x=some (fR x):=by
 unfold f81 fR
 by_cases h:1≤x.op∧x.op≤57
 ·obtain⟨r,hr⟩:=f111_eq h.1 h.2
  obtain⟨l,hl,hlen,hg⟩:=vV h.1 h.2
  have hf:f127 r.fields=some l:=by
   unfold prs at hl
   rw[hr,bnS] at hl
   exact hl
  rw[hr,bnS,dcT h.1,dcT h.2]
  dsimp only
  rw[Bool.not_true,Bool.false_or,Bool.and_true,Bool.not_true,Bool.false_or]
  cases decide (x.op=27)&&decide (x.n>x.m)
  ·rw[cdF]
   cases (decide (x.op=37)&&decide ((IntKind.u8.wrap x.n)=6))&&(!decide (x.m=0))
   ·rw[cdF]
    simp only[ap]
    rw[bnS,hf,bnS]
    refine(f81_l1_eq _ _ _ _ _ _ (λ_ _ _ _ _ _ _ _ _ _ _ _=>rfl) (λ_ _ _ _ _ _ _ _ _ _ _ _=>rfl) (λ_ _ _ _ _ _ _ _ _ _ _ _=>rfl) (λ_ _ _ _ _ _ _ _ _ _ _ _=>rfl) (λ_ _ _ _ _ _ _ _ _ _ _ _=>rfl) (λ_ _ _ _ _ _ _ _ _ _ _ _=>rfl) _ (by intro d a b n m to _ _;rfl) _ l hg oM _ 0 0 _ _ _ _ _ _ rfl (Nat.zero_le _) oM).trans ?_
    rw[List.drop_zero]
    unfold jp
    rw[hl]
    rfl
   ·rfl
  ·rfl
 ·have e:f111 x.op=some ((hZ.mk ByteArray.empty ByteArray.empty),false):=by
   unfold f111
   have:(decide (x.op<1)||decide ((IntKind.i64.wrap x.op)>57))=true:=by
    rw[w64 oM oM,Bool.or_eq_true]
    simp only[decide_eq_true_eq]
    omega
   rw[this];rfl
  have e2:(decide (1≤x.op)&&decide (x.op≤57))=false:=by
   rw[Bool.and_eq_false_iff]
   simp only[decide_eq_false_iff_not]
   omega
  rw[e,e2];rfl
def kB(t:al)(task n:Int):Int×Bool:=match idx t.tasks task with
 |some x=>(match idx x.entries n with
  |some e=>((IntKind.i64.wrap ((IntKind.i64.wrap ((List.length e.ins:Int)+(List.length e.outs:Int)))+1)),true)
  |none=>(0,false))
 |none=>(0,false)
theorem f83_eq(t:al)(a n:Int):f83 ⟨t⟩ a n=some (kB t a n):=by
 unfold f83 kB
 dsimp only
 by_cases h:0≤a∧a<t.tasks.length
 ·obtain⟨y,hy,_⟩:=aE h
  rw[hy,dcF (show¬a<0 by omega),dcF (show¬a≥(t.tasks.length:Int) by omega)]
  dsimp only[bnS]
  by_cases h2:0≤n∧n<y.entries.length
  ·obtain⟨e,he,_⟩:=aE h2
   rw[he,dcF (show¬n<0 by omega),dcF (show¬n≥(y.entries.length:Int) by omega)]
   rfl
  ·rw[c8 h2]
   by_cases h3:n<0
   ·rw[dcT h3];rfl
   ·rw[dcT (show n≥(y.entries.length:Int) by omega),dcF h3];rfl
 ·rw[c8 h]
  have:(decide (a<0)||decide (a≥(t.tasks.length:Int)))=true:=by
   rw[Bool.or_eq_true]
   simp only[decide_eq_true_eq]
   omega
  rw[this];rfl
def rZ(t:al)(p n:Int):Bool:=match idx t.prots p with
 |some x=>decide (0≤n)&&decide (n<(x.barriers.length:Int))
 |none=>false
theorem f84_eq(t:al)(p n:Int):f84 ⟨t⟩ p n=some (rZ t p n):=by
 unfold f84 rZ
 dsimp only
 by_cases h:0≤p∧p<t.prots.length
 ·obtain⟨y,hy,_⟩:=aE h
  rw[hy,dcT (show p≥0 by omega),dcT h.2]
  by_cases h3:0≤n
  ·rw[dcT (show n≥0 from h3)];rfl
  ·rw[dcF (show¬n≥0 from h3)];rfl
 ·rw[c8 h]
  have:(decide (p≥0)&&decide (p<(t.prots.length:Int)))=false:=by
   rw[Bool.and_eq_false_iff]
   simp only[decide_eq_false_iff_not]
   omega
  rw[this];rfl
def jtOk(t:al)(x:ao):Bool:=decide ((IntKind.i64.wrap (x.to+x.m))≤(t.insns.length:Int))&&(bD t.insns x.to (IntKind.i64.wrap (x.to+x.m))).all (λy=>decide (y.op=29))
def fj(t:al)(x:ao):Bool:=fR x&&
 bif decide (x.op=3)||decide (x.op=4) then spot t.objs x.n x.m 1 else
 bif decide (x.op=5)||decide (x.op=6) then spot t.objs x.n x.m x.b else
 bif decide (x.op=29)||(decide (x.op=30)||decide (x.op=31)) then at1 t x.to else
 bif decide (x.op=32) then jtOk t x else
 bif decide (x.op=33) then decide (x.n≤t.excs) else
 bif decide (x.op=44)||(decide (x.op=45)||(decide (x.op=46)||decide (x.op=56))) then decide (x.n<(t.lists.length:Int)) else
 bif decide (x.op=50) then decide (x.n<(t.selects.length:Int)) else
 bif decide (x.op=49) then(kB t x.a x.b).2&&spot t.objs x.n 0 (kB t x.a x.b).1 else
 bif decide (x.op=52) then(kB t x.a x.b).2&&decide (x.to<(t.insns.length:Int)) else
 bif decide (x.op=53)||decide (x.op=55) then decide (x.n<(t.prots.length:Int)) else
 bif decide (x.op=54) then rZ t x.n x.m else
 bif decide (x.op=43) then decide (x.m<0)||rZ t x.m x.n else true
theorem wm:jp 32=[(65,114),(78,118),(77,108),(84,115)]:=by decide+kernel
theorem nv{x:ao}(h:fR x=true)(ho:x.op=32):0≤x.to∧x.to≤65535∧1≤x.m∧x.m≤65536:=by
 unfold fR at h
 rw[ho,wm] at h
 simp only[Bool.and_eq_true] at h
 have:=h.2.2
 simp only[fl,rng,f130] at this
 simp at this
 omega
theorem uS(L:List ao)(hl:L.length<9223372036854775808):f52 L (λz0=>some (f82 z0))=some (!(L.all λy=>decide (y.op=29))):=by
 rw[f52_eq L _ f82 hl λ_ _=>rfl]
 congr 1
 induction L with
 |nil=>rfl
 |cons x L ih=>rw[List.any_cons,List.all_cons,ih (by simp at hl;omega),Bool.not_and];rfl
theorem f54_eq(t:al)(x:ao)(ho:0≤x.op∧x.op≤255)(hl:t.insns.length≤65536):f54 ⟨t⟩ x=some (fj t x):=by
 unfold f54 fj
 rw[f81_eq x ho,bnS]
 cases hm:fR x
 ·rfl
 ·simp only[ap,f68_eq,f69_eq,f83_eq,f84_eq,bnS]
  rw[Bool.not_true,cdF,Bool.true_and]
  cases decide (x.op=3)
  ·cases decide (x.op=4)
   ·cases decide (x.op=5)
    ·cases decide (x.op=6)
     ·cases decide (x.op=29)
      ·cases decide (x.op=30)
       ·cases decide (x.op=31)
        ·cases h32:decide (x.op=32)
         ·cases decide (x.op=33)
          ·cases decide (x.op=44)
           ·cases decide (x.op=45)
            ·cases decide (x.op=46)
             ·cases decide (x.op=56)
              ·cases decide (x.op=50)
               ·cases decide (x.op=49)
                ·cases decide (x.op=52)
                 ·cases decide (x.op=53)
                  ·cases decide (x.op=55)
                   ·cases decide (x.op=54)
                    ·cases decide (x.op=43)
                     ·rfl
                     ·cases decide (x.m<0)<;>rfl
                    ·rfl
                   ·rfl
                  ·rfl
                 ·rfl
                ·cases (kB t x.a x.b).2<;>rfl
               ·rfl
              ·rfl
             ·rfl
            ·rfl
           ·rfl
          ·rfl
         ·obtain⟨a1,a2,a3,a4⟩:=nv hm (of_decide_eq_true h32)
          unfold jtOk
          dsimp only[cdT,cdF,Bool.or_false]
          by_cases h4:(IntKind.i64.wrap (x.to+x.m))≤(t.insns.length:Int)
          ·rw[dcT h4,cdT]
           rw[w64 oM oM] at h4
           rw[w64 oM oM,bx _ (by simp[dD];omega),uS _ (by simp[bD];omega),bnS,Bool.not_not]
           rfl
          ·rw[dcF h4];rfl
        ·rfl
       ·rfl
      ·rfl
     ·rfl
    ·rfl
   ·rfl
  ·rfl
structure Sz(t:al):Prop where
 ops:∀x∈t.insns,0≤x.op∧x.op≤255
 inits:t.inits.length<9223372036854775808
 sets:∀o∈t.objs,o.set_.length<9223372036854775808
 lists:∀l∈t.lists,l.length<9223372036854775808
 prots:t.prots.length<9223372036854775808
 checks:t.checks.length<9223372036854775808
theorem f22_l1_eq(t:al)(k:Int→Option Bool)(a b:Option Bool)(ha:∀i:Int,0≤i→k i=a)(ho:∀x∈t.insns,0≤x.op∧x.op≤255)(hl:t.insns.length≤65536):∀(n i:Nat)(z:Int),z=(i:Int)→i≤t.insns.length→t.insns.length<n+i→
  f22_l1 t k (λ_=>b) n z=bif (t.insns.drop i).all (fj t) then b else a
 |0,i,z,_,_,h=>oM
 |n+1,i,z,hz,hi,h=>by
  subst hz
  rw[f22_l1]
  by_cases hh:i<t.insns.length
  ·rw[aK hh,List.all_cons,dcT (by omega:(i:Int)<(t.insns.length:Int)),cdT,aA hh,bnS,ap,f54_eq t _ (ho _ (List.getElem_mem hh)) hl,bnS]
   cases fj t t.insns[i]
   ·exact ha _ oM
   ·dsimp only
    rw[Bool.not_true,cdF,w64 oM oM,f22_l1_eq t k a b ha ho hl n (i+1) _ (by push_cast;rfl) oM oM,Bool.true_and]
  ·rw[dcF (by omega:¬(i:Int)<(t.insns.length:Int)),cdF,List.drop_eq_nil_of_le oM]
   rfl
def nq(x:ao):Bool:=decide (x.op=29)||(decide (x.op=33)||(decide (x.op=34)||decide (x.op=57)))
def qS(t:al):Bool:=match idx t.insns ((t.insns.length:Int) - 1) with
 |some x=>nq x
 |none=>false
def MayB(t:al):Bool:= !(decide ((t.insns.length:Int)<1)||decide ((t.insns.length:Int)>65536))&&(qS t&&(gO t&&(dG t&&(gS t&&(gL t&&(kh t&&(jo t&&(oJ t&&(gC t (-1) t.checks&&t.insns.all (fj t))))))))))
theorem f22_eq(t:al)(h:Sz t):f22 t=some (MayB t):=by
 unfold f22 MayB
 cases h1:decide ((t.insns.length:Int)<1)||decide ((t.insns.length:Int)>65536)
 ·have hol:(1:Int)≤t.insns.length∧(t.insns.length:Int)≤65536:=by
   simp only[Bool.or_eq_false_iff,decide_eq_false_iff_not] at h1
   omega
  obtain⟨x,hx,_⟩:=aE (L:=t.insns) (i:=(t.insns.length:Int) - 1) oM
  unfold qS
  rw[cdF,w64 oM oM,hx,bnS]
  simp only[ap]
  rw[f44_eq t h.inits h.sets,f45_eq,f46_eq t h.lists,f47_eq t h.prots,f48_eq,f49_eq,f50_eq,f51_eq t h.checks]
  rw[f22_l1_eq t _ (some false) _ (λi h0=>by rw[dcT (show i≥0 from h0)];rfl) h.ops oM _ 0 0 rfl (Nat.zero_le _) oM,List.drop_zero]
  unfold nq
  generalize gO t=b1,dG t=b2,gS t=b3,gL t=b4,kh t=b5,jo t=b6,oJ t=b7,gC t (-1) t.checks=b8,t.insns.all (fj t)=b9
  have key:∀b:Bool,(bif b then(some b1).bind λr69=>bif !r69 then some false else(some b2).bind λr70=>bif !r70 then some false else(some b3).bind λr71=>bif !r71 then some false else(some b4).bind λr72=>bif !r72 then some false else(some b5).bind λr73=>bif !r73 then some false else(some b6).bind λr74=>bif !r74 then some false else(some b7).bind λr75=>bif !r75 then some false else(some b8).bind λr76=>bif !r76 then some false else bif b9 then some (!decide ((-1:Int)≥0)) else some false else some false)=some (b&&(b1&&(b2&&(b3&&(b4&&(b5&&(b6&&(b7&&(b8&&b9))))))))):=by
   intro b
   cases b
   ·rfl
   ·cases b1
    ·rfl
    ·cases b2
     ·rfl
     ·cases b3
      ·rfl
      ·cases b4
       ·rfl
       ·cases b5
        ·rfl
        ·cases b6
         ·rfl
         ·cases b7
          ·rfl
          ·cases b8
           ·rfl
           ·cases b9<;>rfl
  cases decide (x.op=29)
  ·cases decide (x.op=33)
   ·cases decide (x.op=34)
    ·exact key _
    ·exact key true
   ·exact key true
  ·exact key true
 ·rfl
theorem kG{α:Type}{b:Nat}{L M:List α}(hb:b≤64)(h:L.length+M.length≤2000000000000):ed b L M=true:=by
 unfold ed
 have:maxLen=9223372036854775807:=by decide
 rw[this,dcT oM,Bool.true_and]
 refine dcT ?_
 have:(L.length+M.length)*b≤2000000000000*64:=Nat.mul_le_mul h hb
 omega
theorem tf{b:Nat}{n:Int}(hb:b≤64)(h0:0≤n)(h:n≤2000000000000):mc b n=true:=by
 unfold mc
 have:maxLen=9223372036854775807:=by decide
 rw[this,dcT h0,dcT (show n≤((9223372036854775807:Nat):Int) by omega),Bool.true_and,Bool.and_true]
 refine dcT ?_
 have:(b:Int)*n≤64*2000000000000:=Int.mul_le_mul oM h h0 oM
 omega
structure VT(t:al):Prop where
 sz:Sz t
 n:1≤t.insns.length∧t.insns.length≤65536
 objs:t.objs.length≤4096
 excs:4≤t.excs∧t.excs≤64
 obj:∀o∈t.objs,d5 t.objs o=true
 inits:dg t.objs [] t.inits=true
 hdls:t.handlers.length≤4096
 fits:∀x∈t.insns,fj t x=true
 last:qS t=true
 hok:e8 t [] t.handlers=true
theorem MayB.vt{t:al}(hs:Sz t)(h:MayB t=true):VT t:=by
 unfold MayB gO jo at h
 simp only[Bool.and_eq_true,Bool.not_eq_true',Bool.or_eq_false_iff,decide_eq_false_iff_not,List.all_eq_true] at h
 exact⟨hs,oM,oM,oM,h.2.2.1.2.1,h.2.2.1.2.2.1,oM,h.2.2.2.2.2.2.2.2.2.2,h.2.1,h.2.2.2.2.2.2.2.1.2⟩
theorem mm{os:List Obj}:∀(L:List Int)(last:Int),fx os last L=true→-1≤last→last<os.length→(L.length:Int)+last+1≤os.length
 |[],last,_,h1,h2=>by simp;omega
 |x::r,last,h,h1,h2=>by
  simp only[fx,Bool.and_eq_true,decide_eq_true_eq] at h
  have hx:x<os.length:=by
   have:=h.1.2
   unfold aim at this
   cases hi:idx os x with
   |none=>rw[hi] at this;cases this
   |some y=>exact(cm hi).2
  have:=mm r x h.2 oM hx
  simp;omega
theorem uz{os:List Obj}{o:Obj}(h:d5 os o=true)(hn:0<os.length):1≤o.size∧o.size≤16384∧o.lo≤o.hi∧(o.set_.length:Int)≤os.length:=by
 unfold d5 at h
 simp only[Bool.and_eq_true,Bool.not_eq_true',Bool.or_eq_false_iff,decide_eq_false_iff_not] at h
 refine⟨oM,oM,oM,?_⟩
 cases hp:o.ptr
 ·have h2:=h.2
  rw[hp] at h2
  simp only[Bool.not_false,cdT,decide_eq_true_eq] at h2
  omega
 ·have h2:=h.2
  rw[hp] at h2
  simp only[Bool.not_true,cdF,Bool.and_eq_true] at h2
  have:=mm _ _ h2.1 oM oM
  omega
theorem VT.o{t:al}(h:VT t){o:Obj}(ho:o∈t.objs):1≤o.size∧o.size≤16384∧o.lo≤o.hi∧(o.set_.length:Int)≤4096:=by
 have h2:=h.objs
 have:=uz (h.obj o ho) (List.length_pos_of_mem ho)
 omega
theorem gV{os:List Obj}:∀(L:List bZ)(m:List ((Int×Int)×Bool)),dg os m L=true→∀x∈L,dm os x=true
 |[],_,_,x,hx=>by cases hx
 |y::r,m,h,x,hx=>by
  simp only[dg,Bool.and_eq_true] at h
  rcases List.mem_cons.1 hx with e|e
  ·rw[e];exact h.1.2
  ·exact gV r _ h.2 x e
def uF(o:Obj):Int:=bif fits o 0 then 0 else o.lo
def dI(o:Obj):List Int:=List.replicate o.size.toNat (uF o)
theorem f23_l2_eq(j:Nat)(k:List (List Int)→Option (List (List Int)))(o:Obj)(x:List Int)(hl:x.length<9223372036854775808):∀(n i:Nat)(z:Int)(S:List (List Int)),z=(i:Int)→i≤x.length→x.length<n+i→j<S.length→
  S[j]? =some (List.replicate i o.lo++List.replicate (x.length - i) 0)→f23_l2 (j:Int) k o x n z S=k (S.set j (List.replicate x.length o.lo))
 |0,i,z,S,_,_,h,_,_=>oM
 |n+1,i,z,S,hz,hi,h,hj,hS=>by
  subst hz
  rw[f23_l2]
  have hget:S[j]=List.replicate i o.lo++List.replicate (x.length - i) 0:=by
   rw[geG hj] at hS
   exact inS hS
  by_cases hh:i<x.length
  ·rw[dcT (by omega:(i:Int)<(x.length:Int)),cdT,aA hj,bnS,hget]
   rw[aA (show i<(List.replicate i o.lo++List.replicate (x.length - i) (0:Int)).length by simp;omega),bnS,w64 oM oM]
   simp only[Int.toNat_natCast]
   rw[f23_l2_eq j k o x hl n (i+1) _ _ (by push_cast;rfl) oM oM (by simpa using hj)]
   ·rw[List.set_set]
   ·rw[List.getElem?_set_self hj]
    congr 1
    rw[List.set_append_right _ _ sM,List.length_replicate,Nat.sub_self]
    obtain⟨q,hq⟩:∃q,x.length - i=q+1:=⟨x.length - i - 1,oM⟩
    rw[hq,List.replicate_succ,List.set_cons_zero,List.replicate_succ',List.append_assoc,show x.length - (i+1)=q by omega]
    rfl
  ·rw[dcF (by omega:¬(i:Int)<(x.length:Int)),cdF]
   have:i=x.length:=oM
   subst this
   congr 1
   rw[Nat.sub_self,List.replicate_zero,List.append_nil] at hget
   rw[←hget,List.set_getElem_self]
theorem f23_l1_eq(t:al)(hv:VT t)(k:List (List Int)→Option (List (List Int))):∀(n i:Nat)(z:Int),z=(i:Int)→i≤t.objs.length→t.objs.length<n+i→
  f23_l1 t k n z ((t.objs.take i).map dI++List.replicate (t.objs.length - i) [])=k (t.objs.map dI)
 |0,i,z,_,_,h=>oM
 |n+1,i,z,hz,hi,h=>by
  subst hz
  have ho:=hv.objs
  rw[f23_l1]
  by_cases hh:i<t.objs.length
  ·rw[dcT (by omega:(i:Int)<(t.objs.length:Int)),cdT]
   simp only[ap]
   rw[aA hh,bnS]
   have hm:=hv.o (List.getElem_mem hh)
   have hL:((t.objs.take i).map dI++List.replicate (t.objs.length - i) ([]:List Int)).length=t.objs.length:=by simp;omega
   have hstep:∀v,v=dI t.objs[i]→(((t.objs.take i).map dI++List.replicate (t.objs.length - i) ([]:List Int)).set i v)=(t.objs.take (i+1)).map dI++List.replicate (t.objs.length - (i+1)) []:=λv hv=>by
    rw[List.set_append_right _ _ (by simp;omega)]
    have e:i - ((t.objs.take i).map dI).length=0:=by simp;omega
    obtain⟨q,hq⟩:∃q,t.objs.length - i=q+1:=⟨t.objs.length - i - 1,oM⟩
    rw[e,hq,List.replicate_succ,List.set_cons_zero,List.take_succ_eq_append_getElem hh,List.map_append,List.append_assoc,show t.objs.length - (i+1)=q by omega,hv]
    rfl
   rw[bx _ (tf oM oM oM),aA oM,bnS,f55_eq _ _ (hv.sz.sets _ (List.getElem_mem hh)),bnS,w64 oM oM]
   simp only[Int.toNat_natCast]
   generalize hS:(t.objs.take i).map dI++List.replicate (t.objs.length - i) ([]:List Int)=S at*
   cases hf:fits t.objs[i] 0
   ·rw[Bool.not_false,cdT,aA (show i<(S.set i (List.replicate t.objs[i].size.toNat (0:Int))).length by simp;omega),bnS]
    rw[List.getElem_set_self]
    rw[f23_l2_eq i _ _ _ (by simp;omega) _ 0 0 _ rfl (Nat.zero_le _) oM (by simp;omega) (by rw[List.getElem?_set_self oM];simp),List.set_set,List.length_replicate]
    rw[hstep _ (by unfold dI uF;rw[hf];rfl)]
    exact f23_l1_eq t hv k n (i+1) _ (by push_cast;rfl) oM oM
   ·rw[Bool.not_true,cdF,hstep _ (by unfold dI uF;rw[hf];rfl)]
    exact f23_l1_eq t hv k n (i+1) _ (by push_cast;rfl) oM oM
  ·rw[dcF (by omega:¬(i:Int)<(t.objs.length:Int)),cdF]
   have:i=t.objs.length:=oM
   subst this
   rw[Nat.sub_self,List.replicate_zero,List.append_nil,List.take_length]
def oA(S:List (List Int))(x:bZ):List (List Int):=S.set x.o.toNat (((S[x.o.toNat]?).getD []).set x.slot.toNat x.v)
def Shape(os:List Obj)(S:List (List Int)):Prop:=S.map (λr=>(r.length:Int))=os.map (·.size)
theorem Shape.len{os:List Obj}{S:List (List Int)}(h:Shape os S):S.length=os.length:=by
 have:=congrArg List.length h
 simpa using this
theorem Shape.at{os:List Obj}{S:List (List Int)}(h:Shape os S){i:Nat}{o:Obj}(ho:os[i]? =some o):∃r,S[i]? =some r∧(r.length:Int)=o.size:=by
 have h2:=congrArg (λL=>L[i]?) h
 simp only[List.getElem?_map,ho,Option.map_some] at h2
 cases hr:S[i]? with
 |none=>rw[hr] at h2;simp at h2
 |some r=>rw[hr] at h2;exact⟨r,rfl,by simpa using h2⟩
theorem Shape.set{os:List Obj}{S:List (List Int)}(h:Shape os S)(i j:Nat)(v:Int):Shape os (S.set i (((S[i]?).getD []).set j v)):=by
 unfold Shape at*
 rw[←h,List.map_set]
 refine List.ext_getElem? λk=>?_
 rw[List.getElem?_set]
 by_cases hk:i=k
 ·subst hk
  by_cases hl:i<S.length
  ·simp[hl]
  ·simp[hl]
 ·rw[if_neg hk]
theorem f23_l3_eq(t:al)(hv:VT t)(k:List (List Int)→Option (List (List Int))):∀(n i:Nat)(z:Int)(S:List (List Int)),z=(i:Int)→i≤t.inits.length→t.inits.length<n+i→Shape t.objs S→
  f23_l3 t k n z S=k ((t.inits.drop i).foldl oA S)
 |0,i,z,S,_,_,h,_=>oM
 |n+1,i,z,S,hz,hi,h,hS=>by
  subst hz
  have hl:=hv.sz.inits
  rw[f23_l3]
  by_cases hh:i<t.inits.length
  ·have hx:=gV _ _ hv.inits _ (List.getElem_mem hh)
   rw[aK hh,List.foldl_cons,dcT (by omega:(i:Int)<(t.inits.length:Int)),cdT,aA hh,bnS]
   generalize t.inits[i]=x at hx
   unfold dm at hx
   rw[Bool.and_eq_true] at hx
   obtain⟨o,ho,h0,h1⟩:=ep hx.1
   have hob:=hv.o (cg ho)
   obtain⟨r,hr,hrl⟩:=hS.at (aU ho)
   have e:idx S x.o=some r:=by
    unfold idx
    rw[dcT (cm ho).1]
    exact hr
   rw[w64 oM oM] at h1
   obtain⟨v,hv',_⟩:=aE (L:=r) (i:=x.slot) oM
   rw[e,bnS,hv',bnS,w64 oM oM]
   have e2:oA S x=S.set x.o.toNat (r.set x.slot.toNat x.v):=by unfold oA;rw[hr];rfl
   rw[←e2]
   exact f23_l3_eq t hv k n (i+1) _ _ (by push_cast;rfl) oM oM (hS.set _ _ _)
  ·rw[dcF (by omega:¬(i:Int)<(t.inits.length:Int)),cdF,List.drop_eq_nil_of_le oM]
   rfl
def store(t:al):List (List Int):=t.inits.foldl oA (t.objs.map dI)
theorem mj{t:al}(hv:VT t):Shape t.objs (t.objs.map dI):=by
 unfold Shape
 rw[List.map_map]
 refine List.map_congr_left λo ho=>?_
 have:=hv.o ho
 simp[dI];omega
theorem kO{os:List Obj}:∀(L:List bZ)(S:List (List Int)),Shape os S→Shape os (L.foldl oA S)
 |[],_,h=>h
 |_x::r,_,h=>kO r _ (h.set _ _ _)
theorem kg{t:al}(hv:VT t):Shape t.objs (store t):=kO _ _ (mj hv)
theorem f23_eq(t:al)(hs:Sz t)(h:MayB t=true):f23 t=some (store t):=by
 have hv:=MayB.vt hs h
 have ho:=hv.objs
 unfold f23
 rw[f22_eq t hs,h,bnS,Bool.not_true,cdF,bx _ (tf oM oM oM)]
 simp only[ap]
 have e:=f23_l1_eq t hv (λl74=>f23_l3 t (λl105=>some l105) (Int.toNat ((List.length t.inits:Int) - 0)+1) 0 l74) (Int.toNat ((List.length t.objs:Int) - 0)+1) 0 0 rfl (Nat.zero_le _) oM
 rw[List.take_zero,List.map_nil,List.nil_append,Nat.sub_zero] at e
 rw[Int.toNat_natCast,e,f23_l3_eq t hv _ _ 0 0 _ rfl (Nat.zero_le _) oM (mj hv),List.drop_zero]
 rfl
theorem f32_l1_eq(o:Obj)(v:Int)(r:Option Bool)(hl:o.set_.length<9223372036854775808):∀(n i:Nat)(z:Int),z=(i:Int)→i≤o.set_.length→o.set_.length<n+i→
  f32_l1 o v (λ_=>r) n z=bif (o.set_.drop i).any (λx=>f86 x v) then some true else r
 |0,i,z,_,_,h=>oM
 |n+1,i,z,hz,hi,h=>by
  subst hz
  rw[f32_l1]
  by_cases hh:i<o.set_.length
  ·rw[aK hh,List.any_cons,dcT (by omega:(i:Int)<(o.set_.length:Int)),cdT,aA hh,bnS,w64 (x:=(i:Int)+1) oM oM,f32_l1_eq o v r hl n (i+1) _ (by push_cast;rfl) oM oM]
   have e:f86 o.set_[i] v=decide (v=IntKind.i64.wrap (o.set_[i]+1)):=by
    unfold f86
    by_cases hv:v=IntKind.i64.wrap (o.set_[i]+1)
    ·rw[dcT hv,dcT hv.symm]
    ·rw[dcF hv,dcF λh=>hv h.symm]
   rw[e]
   cases decide (v=IntKind.i64.wrap (o.set_[i]+1))<;>rfl
  ·rw[dcF (by omega:¬(i:Int)<(o.set_.length:Int)),cdF,List.drop_eq_nil_of_le oM]
   rfl
theorem f32_eq(o:Obj)(v:Int)(hl:o.set_.length<9223372036854775808):f32 o v=some (fits o v):=by
 unfold f32 fits
 cases o.ptr
 ·rfl
 ·rw[Bool.not_true,cdF,cdT,ap,f32_l1_eq o v _ hl _ 0 0 rfl (Nat.zero_le _) oM,List.drop_zero]
  cases o.set_.any (λn=>f86 n v)<;>cases decide (v=0)<;>rfl
def pU(os:List Obj)(L:List Int):Nat→List Int→Bool
 |_,[]=>true
 |i,x::r=>(decide (0≤x)&&aim os x&&(bif Nat.beq i 0 then true else decide ((L[i - 1]?).getD 0<x)))&&pU os L (i+1) r
theorem tX{os:List Obj}{x:Int}:aim os x=true→0≤x∧x<os.length:=λh=>by
 unfold aim at h
 cases hx:idx os x with
 |none=>rw[hx] at h;cases h
 |some y=>exact cm hx
theorem uk(os:List Obj)(L:List Int):∀(i:Nat),i≤L.length→pU os L i (L.drop i)=fx os (if i=0 then -1 else(L[i - 1]?).getD 0) (L.drop i)∨∃j,j<i∧(L[j]?).getD 0<0:=by
 intro i hi
 generalize hk:L.length - i=k
 induction k generalizing i with
 |zero=>
  left
  rw[List.drop_eq_nil_of_le oM];rfl
 |succ k ih=>
  have hh:i<L.length:=oM
  rw[aK hh]
  have hg:(L[i]?).getD 0=L[i]:=by rw[geG hh];rfl
  rcases ih (i+1) oM oM with h|⟨j,hj,hn⟩
  ·left
   rw[if_neg oM,Nat.add_sub_cancel,hg] at h
   unfold pU fx
   rw[h]
   by_cases h0:i=0
   ·subst h0
    rw[if_pos rfl]
    show((decide ((0:Int)≤L[0])&&aim os L[0]&&true)&&_)=_
    by_cases hx:(0:Int)≤L[0]
    ·rw[dcT hx,dcT (show(-1:Int)<L[0] by omega),Bool.and_true]
    ·rw[dcF hx,dcF (show¬(-1:Int)<L[0] by omega)];rfl
   ·rw[if_neg h0]
    have hb:Nat.beq i 0=false:=by
     cases i with
     |zero=>exact absurd rfl h0
     |succ i=>rfl
    rw[hb,cdF]
    by_cases ha:aim os L[i]=true
    ·have:=tX ha
     rw[ha,dcT this.1]
     cases decide ((L[i - 1]?).getD 0<L[i])<;>rfl
    ·have ha:aim os L[i]=false:=by simpa using ha
     rw[ha];simp
  ·by_cases hji:j=i
   ·subst hji
    left
    rw[hg] at hn
    unfold pU fx
    rw[dcF (show¬0≤L[j] by omega)]
    have ha:aim os L[j]=false:=by
     cases ha:aim os L[j]
     ·rfl
     ·have:=tX ha;omega
    rw[ha];simp
   ·exact .inr ⟨j,oM,hn⟩
theorem f30_l1_eq(t:al)(o:Obj)(r:Option Bool)(hl:o.set_.length<9223372036854775808):∀(n i:Nat)(z:Int),z=(i:Int)→i≤o.set_.length→o.set_.length<n+i→
  f30_l1 t o (λ_=>r) n z=bif pU t.objs o.set_ i (o.set_.drop i) then r else some false
 |0,i,z,_,_,h=>oM
 |n+1,i,z,hz,hi,h=>by
  subst hz
  rw[f30_l1]
  by_cases hh:i<o.set_.length
  ·rw[aK hh,pU,dcT (by omega:(i:Int)<(o.set_.length:Int)),cdT,aA hh,bnS,w64 (x:=(i:Int)+1) oM oM,f30_l1_eq t o r hl n (i+1) _ (by push_cast;rfl) oM oM]
   have hprev:i≠0→idx o.set_ (IntKind.i64.wrap ((i:Int) - 1))=some ((o.set_[i - 1]?).getD 0):=λh0=>by
    rw[w64 oM oM,show(i:Int) - 1=((i - 1:Nat):Int) by omega,aA oM,geG oM];rfl
   generalize hx:o.set_[i]=x
   unfold aim
   by_cases h1:0≤x∧x<t.objs.length
   ·obtain⟨y,hy,_⟩:=aE h1
    rw[dcF (show¬x<0 by omega),dcF (show¬x≥(t.objs.length:Int) by omega),dcT h1.1,hy]
    simp only[Bool.or_self,cdF,bnS]
    by_cases h2:y.size=1
    ·rw[dcT h2]
     cases h3:y.ptr
     ·simp only[Bool.not_true,Bool.not_false,cdF,bnS,Bool.and_self,Bool.true_and]
      by_cases h0:i=0
      ·subst h0;rfl
      ·rw[dcT (by omega:(i:Int)>0),cdT,hprev h0]
       have hb:Nat.beq i 0=false:=by
        cases i with
        |zero=>exact absurd rfl h0
        |succ i=>rfl
       rw[hb,cdF]
       simp only[bnS]
       by_cases h4:(o.set_[i - 1]?).getD 0<x
       ·rw[dcT h4,dcF oM];rfl
       ·rw[dcF h4,dcT oM];rfl
     ·rfl
    ·rw[dcF h2];rfl
   ·rw[c8 h1]
    have:(decide (x<0)||decide (x≥(t.objs.length:Int)))=true:=by
     rw[Bool.or_eq_true];simp only[decide_eq_true_eq];omega
    rw[this];simp
  ·rw[dcF (by omega:¬(i:Int)<(o.set_.length:Int)),cdF,List.drop_eq_nil_of_le oM]
   rfl
theorem f30_eq(t:al)(o:Obj)(hl:o.set_.length<9223372036854775808):f30 t o=some (d5 t.objs o):=by
 unfold f30 d5
 rw[ap,f30_l1_eq t o _ hl _ 0 0 rfl (Nat.zero_le _) oM,List.drop_zero]
 have hs:pU t.objs o.set_ 0 o.set_=fx t.objs (-1) o.set_:=by
  rcases uk t.objs o.set_ 0 (Nat.zero_le _) with h|⟨j,hj,_⟩
  ·simpa using h
  ·omega
 rw[hs]
 cases (decide (o.size<1)||decide (o.size>16384))||decide (o.lo>o.hi)
 ·cases o.ptr
  ·by_cases h0:(o.set_.length:Int)=0
   ·rw[dcT h0,dcF (show¬(o.set_.length:Int)>0 by omega)]
    have:o.set_=[]:=List.length_eq_zero_iff.1 oM
    rw[this];rfl
   ·rw[dcF h0,dcT (show(o.set_.length:Int)>0 by omega)];rfl
  ·cases decide (o.lo=0)<;>cases decide (o.hi=0)<;>cases fx t.objs (-1) o.set_<;>cases decide ((o.set_.length:Int)>0)<;>rfl
 ·rfl
theorem f31_eq(t:al)(o f m:Int)(hm:0≤m):f31 t o f m=some (spot t.objs o f m):=by
 unfold f31 spot
 by_cases h:0≤o∧o<t.objs.length
 ·obtain⟨x,hx,_⟩:=aE h
  rw[hx,dcT (show o≥0 from h.1),dcT h.2,dcT (show m≥0 from hm)]
  by_cases hf:0≤f
  ·rw[dcT (show f≥0 from hf)];rfl
  ·rw[dcF (show¬f≥0 from hf)];rfl
 ·rw[c8 h]
  have:(decide (o≥0)&&decide (o<(t.objs.length:Int)))=false:=by
   rw[Bool.and_eq_false_iff]
   simp only[decide_eq_false_iff_not]
   omega
  rw[this];rfl
theorem f11_l1_eq(t:al)(k:Int→Option Bool)(hl:t.objs.length<9223372036854775808)(hs:∀o∈t.objs,o.set_.length<9223372036854775808):∀(n i:Nat)(z a:Int),z=(i:Int)→i≤t.objs.length→t.objs.length<n+i→
  f11_l1 t k n a z=bif (t.objs.drop i).all (d5 t.objs) then k (m6 a (t.objs.drop i)) else some false
 |0,i,z,a,_,_,h=>oM
 |n+1,i,z,a,hz,hi,h=>by
  subst hz
  rw[f11_l1]
  by_cases hh:i<t.objs.length
  ·rw[aK hh,List.all_cons,dcT (by omega:(i:Int)<(t.objs.length:Int)),cdT,aA hh,bnS,f30_eq t _ (hs _ (List.getElem_mem _)),bnS,w64 (x:=(i:Int)+1) oM oM,bnS]
   cases hc:d5 t.objs t.objs[i]
   ·rfl
   ·rw[Bool.not_true,cdF,Bool.true_and,f11_l1_eq t k hl hs n (i+1) _ _ (by push_cast;rfl) oM oM]
    rfl
  ·rw[dcF (by omega:¬(i:Int)<(t.objs.length:Int)),cdF,List.drop_eq_nil_of_le oM]
   rfl
def neI(x y:bZ):Bool:= !(decide (y.o=x.o)&&decide (y.slot=x.slot))
def gi(os:List Obj):List bZ→List bZ→Bool
 |_,[]=>true
 |P,x::r=>(dm os x&&P.all (neI x))&&gi os (P++ [x]) r
theorem f11_l3_eq(t:al)(j:Nat)(x:bZ)(r:Option Bool)(hj:j≤t.inits.length)(hl:t.inits.length<9223372036854775808):∀(n i:Nat)(z:Int),z=(i:Int)→i≤j→j<n+i→
  f11_l3 t (j:Int) (λ_ _ _=>r) x n z=bif ((t.inits.take j).drop i).all (neI x) then r else some false
 |0,i,z,_,_,h=>oM
 |n+1,i,z,hz,hi,h=>by
  subst hz
  rw[f11_l3]
  have hL:(t.inits.take j).length=j:=by rw[List.length_take];omega
  by_cases hh:i<j
  ·have e:(t.inits.take j)[i]'oM=t.inits[i]'oM:=List.getElem_take
   rw[aK (L:=t.inits.take j) (i:=i) oM,List.all_cons,e,dcT (by omega:(i:Int)<(j:Int)),cdT,aA (show i<t.inits.length by omega),bnS,w64 oM oM,f11_l3_eq t j x r hj hl n (i+1) _ (by push_cast;rfl) oM oM]
   generalize t.inits[i]'oM=y
   unfold neI
   rw[bnS]
   cases decide (y.o=x.o)<;>cases decide (y.slot=x.slot)<;>rfl
  ·rw[dcF (by omega:¬(i:Int)<(j:Int)),cdF,List.drop_eq_nil_of_le oM]
   rfl
theorem f11_l2_eq(t:al)(r:Option Bool)(hl:t.inits.length<9223372036854775808)(hs:∀o∈t.objs,o.set_.length<9223372036854775808):∀(n i:Nat)(z:Int),z=(i:Int)→i≤t.inits.length→t.inits.length<n+i→
  f11_l2 t (λ_=>r) n z=bif gi t.objs (t.inits.take i) (t.inits.drop i) then r else some false
 |0,i,z,_,_,h=>oM
 |n+1,i,z,hz,hi,h=>by
  subst hz
  rw[f11_l2]
  by_cases hh:i<t.inits.length
  ·rw[aK hh,gi,←List.take_succ_eq_append_getElem hh,dcT (by omega:(i:Int)<(t.inits.length:Int)),cdT,ap,aA hh,bnS,f31_eq _ _ _ _ oM,bnS,w64 oM oM,f11_l2_eq t r hl hs n (i+1) _ (by push_cast;rfl) oM oM]
   rw[f11_l3_eq t i _ _ oM hl _ 0 0 rfl (Nat.zero_le _) oM,List.drop_zero]
   generalize t.inits[i]=x
   unfold dm
   cases hsp:spot t.objs x.o x.slot 1
   ·rfl
   ·obtain⟨y,hy,_⟩:=ep hsp
    rw[hy]
    simp only[Bool.not_true,bnS,cdF,Bool.true_and]
    rw[f32_eq _ _ (hs _ (cg hy))]
    simp only[bnS]
    cases fits y x.v<;>cases (t.inits.take i).all (neI x)<;>rfl
  ·rw[dcF (by omega:¬(i:Int)<(t.inits.length:Int)),cdF,List.drop_eq_nil_of_le oM]
   rfl
theorem rW(P:List bZ)(m:List ((Int×Int)×Bool))(x:bZ):inM (P.foldl (λm x=>bI m (x.o,x.slot) true) m) (x.o,x.slot)=(inM m (x.o,x.slot)|| !(P.all (neI x))):=by
 induction P generalizing m with
 |nil=>simp
 |cons y P ih=>
  rw[List.foldl_cons,ih,nu,List.all_cons]
  have:decide ((y.o,y.slot)=(x.o,x.slot))= !(neI x y):=by
   unfold neI
   rw[Bool.not_not]
   by_cases h1:y.o=x.o
   ·by_cases h2:y.slot=x.slot
    ·simp[h1,h2]
    ·simp[h1,h2]
   ·simp[h1]
  rw[this]
  cases neI x y<;>cases inM m (x.o,x.slot)<;>simp
theorem jP(os:List Obj):∀(r P:List bZ),gi os P r=dg os (P.foldl (λm x=>bI m (x.o,x.slot) true) []) r
 |[],P=>rfl
 |x::r,P=>by
  rw[gi,dg,jP os r (P++ [x]),List.foldl_append,rW]
  have e:inM ([]:List ((Int×Int)×Bool)) (x.o,x.slot)=false:=rfl
  rw[e,Bool.false_or,Bool.not_not]
  simp only[List.foldl_cons,List.foldl_nil]
  cases dm os x<;>cases P.all (neI x)<;>rfl
theorem ww{α:Type}(xs:List α)(F:Nat→Int→Option Bool)(k:Option Bool)(p:α→Bool)(hl:xs.length<9223372036854775808)
  (h0:∀n (i:Nat)(h:i<xs.length),F (n+1) (i:Int)=bif p xs[i] then F n ((i+1:Nat):Int) else some false)
  (h1:∀n,F (n+1) (xs.length:Int)=k):∀(n i:Nat)(z:Int),z=(i:Int)→i≤xs.length→xs.length<n+i→F n z=bif (xs.drop i).all p then k else some false
 |0,i,z,_,_,h=>oM
 |n+1,i,z,hz,hi,h=>by
  subst hz
  by_cases hh:i<xs.length
  ·rw[aK hh,List.all_cons,h0 n i hh,ww xs F k p hl h0 h1 n (i+1) _ rfl oM oM]
   cases p xs[i]<;>rfl
  ·have e:i=xs.length:=oM
   subst e
   rw[h1,List.drop_eq_nil_of_le (Nat.le_refl _)];rfl
theorem iE{α:Type}(xs:List α)(F:Nat→Int→Option Bool)(k:Option Bool)(p:α→Bool)(n:Nat)(hn:n=9223372036854775808)(hl:xs.length<9223372036854775808)
  (h0:∀n (i:Nat)(h:i<xs.length),F (n+1) (i:Int)=bif p xs[i] then F n ((i+1:Nat):Int) else some false)
  (h1:∀n,F (n+1) (xs.length:Int)=k):F n 0=bif xs.all p then k else some false:=by
 rw[ww xs F k p hl h0 h1 n 0 0 rfl (Nat.zero_le _) oM,List.drop_zero]
theorem iu{i n:Nat}(h:i<n):decide ((i:Int)<(n:Int))=true:=dcT oM
theorem gh{n:Nat}:decide ((n:Int)<(n:Int))=false:=dcF oM
theorem w1{i n:Nat}(h:i<n)(hl:n<9223372036854775808):IntKind.i64.wrap ((i:Int)+1)=((i+1:Nat):Int):=by rw[w64 oM oM];push_cast;rfl
theorem f34_eq(t:al)(l:List Int):f34 t l=some (dF t.objs l):=by
 unfold f34 dF
 by_cases h:(l.length:Int)≤8
 ·rw[dcT h,dcF (by omega:¬(l.length:Int)>8),cdF,ap,
   iE l (f34_l1 t l λ_=>some true) (some true) (nl t.objs) _ rfl oM (λn i hi=>by
    rw[f34_l1,iu hi,cdT,aA hi,bnS,w1 hi oM]
    generalize l[i]=x
    unfold nl
    by_cases hx:0≤x∧x<t.objs.length
    ·obtain⟨y,hy,_⟩:=aE hx
     rw[hy,dcF (show¬x<0 by omega)]
     simp only[cdF,bnS]
     rw[dcF (show¬x≥(t.objs.length:Int) by omega),cdF,hy,bnS]
     cases decide (y.size=1)<;>rfl
    ·rw[c8 hx]
     by_cases h1:x<0
     ·rw[dcT h1];rfl
     ·rw[dcF h1]
      simp only[cdF,bnS]
      rw[dcT (show x≥(t.objs.length:Int) by omega)];rfl) (λn=>by rw[f34_l1,gh,cdF])]
  cases l.all (nl t.objs)<;>rfl
 ·rw[dcF h,dcT (by omega:(l.length:Int)>8)];rfl
theorem f12_eq(t:al):f12 t=some (dG t):=by
 unfold f12 dG
 cases h1:(decide ((t.tasks.length:Int)<1)||decide ((t.tasks.length:Int)>32))
 ·have hl:(t.tasks.length:Int)≤32:=by
   simp only[Bool.or_eq_false_iff,decide_eq_false_iff_not] at h1
   omega
  rw[cdF,ap,iE t.tasks (f12_l1 t λ_=>some true) (some true) (dH t) _ rfl oM (λn i hi=>by
   rw[f12_l1,iu hi,cdT,ap,aA hi,bnS,w1 hi oM]
   generalize t.tasks[i]=x
   unfold dH
   have hat:f33 t x.at_=at1 t x.at_:=rfl
   rw[hat]
   cases hc:(((((decide (x.prio<0)||decide (x.prio>31))||(!(at1 t x.at_)))||decide (x.deadline<0))||decide (x.deadline>2147483647))||decide ((x.entries.length:Int)>8))
   ·have he:(x.entries.length:Int)≤8:=by
     simp only[Bool.or_eq_false_iff,decide_eq_false_iff_not] at hc
     omega
    rw[cdF,iE x.entries (f12_l2 t (λ_ _ _ _=>f12_l1 t (λ_=>some true) n ((i+1:Nat):Int)) x) (f12_l1 t (λ_=>some true) n ((i+1:Nat):Int)) (d7 t.objs) _ rfl oM (λm j hj=>by
     rw[f12_l2,iu hj,cdT,aA hj,bnS,w1 hj oM,f34_eq,bnS,bnS,f34_eq]
     unfold d7
     cases dF t.objs x.entries[j].ins<;>cases dF t.objs x.entries[j].outs<;>rfl) (λm=>by rw[f12_l2,gh,cdF])]
    cases x.entries.all (d7 t.objs)<;>rfl
   ·rfl) (λn=>by rw[f12_l1,gh,cdF])]
  cases t.tasks.all (dH t)<;>rfl
 ·rfl
theorem ux(a b:Int)(ha: -9223372036854775808≤a∧a≤9223372036854775807)(hb: -9223372036854775808≤b∧b≤9223372036854775807):
  decide ((IntKind.i64.wrap (BitVec.ofInt IntKind.i64.bits a|||BitVec.ofInt IntKind.i64.bits b).toNat)=0)=(decide (a=0)&&decide (b=0)):=by
 have hz:∀x:BitVec 64,IntKind.i64.wrap (x.toNat:Int)=0↔x=0#64:=λx=>by
  have:=x.isLt
  rw[IntKind.wrap_i64]
  constructor
  ·intro h
   apply BitVec.eq_of_toNat_eq
   show x.toNat=0
   omega
  ·intro h
   have:x.toNat=0:=by rw[h];rfl
   omega
 have hf:∀a:Int, -9223372036854775808≤a∧a≤9223372036854775807→(BitVec.ofInt 64 a=0#64↔a=0):=λa ha=>by
  constructor
  ·intro h
   have:=congrArg BitVec.toNat h
   rw[BitVec.toNat_ofInt] at this
   have e:(0#64).toNat=0:=rfl
   rw[e] at this
   omega
  ·intro h
   rw[h];rfl
 have e:(IntKind.i64.wrap (BitVec.ofInt IntKind.i64.bits a|||BitVec.ofInt IntKind.i64.bits b).toNat=0)↔(a=0∧b=0):=(hz _).trans (BitVec.or_eq_zero_iff.trans (and_congr (hf a ha) (hf b hb)))
 rw[decide_eq_decide.2 e,Bool.decide_and]
theorem uZ(t:al)(o:Int)(a:jb)(h1: -9223372036854775808≤a.entry∧a.entry≤9223372036854775807)(h2: -9223372036854775808≤a.time∧a.time≤9223372036854775807):f37 t o a=some (fT t o a):=by
 unfold f37 fT
 rw[ux _ _ h1 h2,f31_eq t o a.guard 1 oM,f31_eq t o a.time 1 oM]
 have hat:f33 t a.at_=at1 t a.at_:=rfl
 have h8:decide (a.entry≤7)=decide (a.entry<8):=by
  by_cases h:a.entry≤7
  ·rw[dcT h,dcT oM]
  ·rw[dcF h,dcF oM]
 rw[hat,h8]
 simp only[ap,bnS]
 cases at1 t a.at_
 ·rfl
 ·cases decide (a.guard= -1)
  ·cases spot t.objs o a.guard 1
   ·rfl
   ·cases decide (a.kind=1)
    ·cases decide (a.kind=2)<;>cases decide (a.kind=3)<;>cases decide (a.kind=4)<;>cases decide (a.entry=0)<;>cases decide (a.time=0)<;>rfl
    ·rfl
  ·cases decide (a.kind=1)
   ·cases decide (a.kind=2)<;>cases decide (a.kind=3)<;>cases decide (a.kind=4)<;>cases decide (a.entry=0)<;>cases decide (a.time=0)<;>rfl
   ·rfl
theorem rI{os:List Obj}{o:Int}(hp:∀y,idx os o=some y→1≤y.size∧y.size≤65536):spot os o 0 1=(decide (0≤o)&&decide (o<(os.length:Int))):=by
 unfold spot
 by_cases h:0≤o∧o<os.length
 ·obtain⟨x,hx,_⟩:=aE h
  have:=hp x hx
  rw[hx,dcT h.1,dcT h.2]
  dsimp only
  rw[w64 oM oM]
  simp;omega
 ·rw[c8 h]
  dsimp only
  by_cases h1:0≤o
  ·rw[dcF (show¬o<(os.length:Int) by omega),Bool.and_false]
  ·rw[dcF h1];rfl
theorem f14_l2_eq(t:al)(x:c4)(r:Option Bool)(ha:∀a∈x.alts,(-9223372036854775808≤a.entry∧a.entry≤9223372036854775807)∧-9223372036854775808≤a.time∧a.time≤9223372036854775807)(hl:x.alts.length<9223372036854775808)(n:Nat)(hn:n=9223372036854775808):
  f14_l2 t (λ_ _ _=>r) x n 0=bif x.alts.all (fT t x.obj) then r else some false:=
 iE x.alts (f14_l2 t (λ_ _ _=>r) x) r (fT t x.obj) n hn hl (λm j hj=>by
  have:=ha _ (List.getElem_mem hj)
  rw[f14_l2,iu hj,cdT,aA hj,bnS,w1 hj hl,uZ _ _ _ this.1 this.2,bnS]
  cases fT t x.obj x.alts[j]<;>rfl) (λm=>by rw[f14_l2,gh,cdF])
def iQ{α:Type}(q:List α→α→Bool):List α→List α→Bool
 |_,[]=>true
 |P,x::r=>q P x&&iQ q (P++ [x]) r
theorem vh{α:Type}(xs:List α)(F:Nat→Int→Option Bool)(k:Option Bool)(q:List α→α→Bool)(hl:xs.length<9223372036854775808)
  (h0:∀n (i:Nat)(h:i<xs.length),F (n+1) (i:Int)=bif q (xs.take i) xs[i] then F n ((i+1:Nat):Int) else some false)
  (h1:∀n,F (n+1) (xs.length:Int)=k):∀(n i:Nat)(z:Int),z=(i:Int)→i≤xs.length→xs.length<n+i→F n z=bif iQ q (xs.take i) (xs.drop i) then k else some false
 |0,i,z,_,_,h=>oM
 |n+1,i,z,hz,hi,h=>by
  subst hz
  by_cases hh:i<xs.length
  ·rw[aK hh,iQ,←List.take_succ_eq_append_getElem hh,h0 n i hh,vh xs F k q hl h0 h1 n (i+1) _ rfl oM oM]
   cases q (xs.take i) xs[i]<;>rfl
  ·have e:i=xs.length:=oM
   subst e
   rw[h1,List.drop_eq_nil_of_le (Nat.le_refl _)];rfl
theorem qG{α:Type}(xs:List α)(F:Nat→Int→Option Bool)(k:Option Bool)(q:List α→α→Bool)(n:Nat)(hn:n=9223372036854775808)(hl:xs.length<9223372036854775808)
  (h0:∀n (i:Nat)(h:i<xs.length),F (n+1) (i:Int)=bif q (xs.take i) xs[i] then F n ((i+1:Nat):Int) else some false)
  (h1:∀n,F (n+1) (xs.length:Int)=k):F n 0=bif iQ q [] xs then k else some false:=by
 rw[vh xs F k q hl h0 h1 n 0 0 rfl (Nat.zero_le _) oM,List.drop_zero,List.take_zero]
theorem pP{α:Type}(xs:List α)(j:Nat)(hj:j≤xs.length)(F:Nat→Int→Option Bool)(k:Option Bool)(p:α→Bool)(n:Nat)(hn:n=9223372036854775808)(hl:xs.length<9223372036854775808)
  (h0:∀n (i:Nat)(h:i<xs.length),i<j→F (n+1) (i:Int)=bif p xs[i] then F n ((i+1:Nat):Int) else some false)
  (h1:∀n,F (n+1) (j:Int)=k):F n 0=bif (xs.take j).all p then k else some false:=by
 have hL:(xs.take j).length=j:=by rw[List.length_take];omega
 refine iE (xs.take j) F k p n hn oM (λm i h=>?_) (λm=>by rw[hL];exact h1 m)
 rw[h0 m i oM oM,List.getElem_take]
def oN(n:Int)(P:List Int)(x:Int):Bool:= !(decide (x<1)||decide (x≥n))&&P.all λy=> !(decide (y=x))
theorem tl(P:List Int)(m:List (Int×Bool))(x:Int):inM (P.foldl (λm x=>bI m x true) m) x=(inM m x|| !(P.all λy=> !(decide (y=x)))):=by
 induction P generalizing m with
 |nil=>simp
 |cons y P ih=>
  rw[List.foldl_cons,ih,nu,List.all_cons]
  cases decide (y=x)<;>cases inM m x<;>simp
theorem oL(n:Int):∀(r P:List Int),iQ (oN n) P r=fJ n (P.foldl (λm x=>bI m x true) []) r
 |[],P=>rfl
 |x::r,P=>by
  rw[iQ,fJ,oL n r (P++ [x]),List.foldl_append,tl]
  have e:inM ([]:List (Int×Bool)) x=false:=rfl
  rw[e,Bool.false_or,oN]
  simp only[List.foldl_cons,List.foldl_nil]
  cases (decide (x<1)||decide (x≥n))<;>cases (P.all λy=> !(decide (y=x)))<;>rfl
theorem f14_l4_eq(t:al)(l:List Int)(r:Option Bool)(hl:l.length<9223372036854775808)(n:Nat)(hn:n=9223372036854775808):
  f14_l4 t (λ_=>r) l n 0=bif fJ t.tasks.length [] l then r else some false:=by
 rw[show fJ (t.tasks.length:Int) [] l=iQ (oN t.tasks.length) [] l from(oL _ l []).symm]
 refine qG l (f14_l4 t (λ_=>r) l) r (oN t.tasks.length) n hn hl (λm i hi=>?_) (λm=>by rw[f14_l4,gh,cdF])
 rw[f14_l4,iu hi,cdT,ap,aA hi,bnS,w1 hi hl,bnS]
 unfold oN
 rw[pP l i oM (f14_l5 l (i:Int) λ_=>f14_l4 t (λ_=>r) l m ((i+1:Nat):Int)) (f14_l4 t (λ_=>r) l m ((i+1:Nat):Int)) (λy=> !(decide (y=l[i]))) _ rfl hl (λm' j hj hji=>by
  rw[f14_l5,dcT (by omega:(j:Int)<(i:Int)),cdT,aA hj,bnS,aA hi,bnS,w1 hj hl]
  cases decide (l[j]=l[i])<;>rfl) (λm'=>by rw[f14_l5,gh,cdF])]
 cases decide (l[i]<1)<;>cases decide (l[i]≥(t.tasks.length:Int))<;>cases ((l.take i).all λy=> !(decide (y=l[i])))<;>rfl
theorem f14_l3_eq(t:al)(r:Option Bool)(hl:t.lists.length<9223372036854775808)(n:Nat)(hn:n=9223372036854775808):
  f14_l3 t (λ_=>r) n 0=bif t.lists.all (jl t) then r else some false:=by
 refine iE t.lists (f14_l3 t λ_=>r) r (jl t) n hn hl (λm i hi=>?_) (λm=>by rw[f14_l3,gh,cdF])
 rw[f14_l3,iu hi,cdT,ap,aA hi,bnS,w1 hi hl]
 generalize t.lists[i]=x
 unfold jl
 by_cases h:(x.length:Int)>32
 ·rw[dcT h,Bool.not_true,Bool.and_false];rfl
 ·rw[dcF h,cdF,f14_l4_eq t x _ oM _ rfl]
  cases fJ t.tasks.length [] x<;>rfl
structure SzA(t:al):Prop where
 alts:∀x∈t.selects,∀a∈x.alts,(-9223372036854775808≤a.entry∧a.entry≤9223372036854775807)∧-9223372036854775808≤a.time∧a.time≤9223372036854775807
theorem f14_l1_eq(t:al)(ha:SzA t)(hp:∀o y,idx t.objs o=some y→1≤y.size∧y.size≤65536)(r:Option Bool)(hl:t.selects.length<9223372036854775808)(n:Nat)(hn:n=9223372036854775808):
  f14_l1 t (λ_=>r) n 0=bif t.selects.all (gz t) then r else some false:=by
 refine iE t.selects (f14_l1 t λ_=>r) r (gz t) n hn hl (λm i hi=>?_) (λm=>by rw[f14_l1,gh,cdF])
 rw[f14_l1,iu hi,cdT,ap,aA hi,bnS,w1 hi hl]
 have hx:=ha.alts _ (List.getElem_mem hi)
 generalize t.selects[i]=x at hx
 have hat:f33 t x.else_=at1 t x.else_:=rfl
 rw[f31_eq t x.obj 0 1 oM,rI (hp x.obj),hat]
 unfold gz
 by_cases hc:1≤(x.alts.length:Int)∧(x.alts.length:Int)≤16
 ·rw[dcF (show¬(x.alts.length:Int)<1 by omega),dcF (show¬(x.alts.length:Int)>16 by omega)]
  simp only[Bool.or_self,cdF,bnS,Bool.false_or]
  rw[f14_l2_eq t x _ hx oM _ rfl]
  by_cases h1:0≤x.obj
  ·rw[dcT h1,dcF (show¬x.obj<0 by omega)]
   by_cases h2:x.obj<(t.objs.length:Int)
   ·rw[dcT h2,dcF (show¬x.obj≥(t.objs.length:Int) by omega)]
    cases decide (x.else_= -1)<;>cases at1 t x.else_<;>cases x.alts.all (fT t x.obj)<;>rfl
   ·rw[dcF h2,dcT (show x.obj≥(t.objs.length:Int) by omega)];rfl
  ·rw[dcF h1,dcT (show x.obj<0 by omega)];rfl
 ·have:(decide ((x.alts.length:Int)<1)||decide ((x.alts.length:Int)>16))=true:=by
   rw[Bool.or_eq_true]
   simp only[decide_eq_true_eq]
   omega
  rw[this];rfl
theorem f14_eq(t:al)(ha:SzA t)(hp:∀o y,idx t.objs o=some y→1≤y.size∧y.size≤65536):f14 t=some (kh t&&gS t):=by
 unfold f14 kh gS
 by_cases h1:(t.selects.length:Int)>1024
 ·rw[dcT h1];rfl
 ·rw[dcF h1,Bool.false_or]
  by_cases h2:(t.lists.length:Int)>4096
  ·rw[dcT h2]
   cases t.selects.all (gz t)<;>rfl
  ·rw[dcF h2,cdF,ap,f14_l1_eq t ha hp _ oM _ rfl,ap,f14_l3_eq t _ oM _ rfl]
   cases t.selects.all (gz t)<;>cases t.lists.all (jl t)<;>rfl
def uJ(t:al)(P:List bB)(x:bB):Bool:= !(eG t x)&&P.all λg=> !((!(decide (g.from_≥x.from_)&&decide (g.to≤x.to)))&&(!(decide (g.to≤x.from_)||decide (x.to≤g.from_))))
theorem qL{x g:bB}(hx:x.from_<x.to)(hg:g.from_<g.to):iT x g= !((!(decide (g.from_≥x.from_)&&decide (g.to≤x.to)))&&(!(decide (g.to≤x.from_)||decide (x.to≤g.from_)))):=by
 have e:decide ((if x.from_>g.from_ then x.from_ else g.from_)<(if x.to<g.to then x.to else g.to))=(!(decide (g.to≤x.from_)||decide (x.to≤g.from_))):=by
  by_cases h1:g.to≤x.from_
  ·rw[dcT h1]
   refine dcF ?_
   split<;>split<;>omega
  ·by_cases h2:x.to≤g.from_
   ·rw[dcT h2,Bool.or_true]
    refine dcF ?_
    split<;>split<;>omega
   ·rw[dcF h1,dcF h2]
    refine dcT ?_
    split<;>split<;>omega
 unfold iT
 rw[e]
theorem rY{t:al}{x:bB}(h:eG t x=false):x.from_<x.to:=by
 unfold eG at h
 simp only[Bool.or_eq_false_iff,decide_eq_false_iff_not] at h
 omega
theorem qV(t:al):∀(r P:List bB),(∀g∈P,g.from_<g.to)→iQ (uJ t) P r=e8 t P r
 |[],P,_=>rfl
 |x::r,P,hP=>by
  rw[iQ,e8,uJ]
  cases hb:eG t x
  ·have hx:=rY hb
   rw[qV t r (P++ [x]) (λg hg=>by
    rcases List.mem_append.1 hg with h|h
    ·exact hP g h
    ·rw[List.mem_singleton] at h;subst h;exact hx)]
   have e:(P.all λg=> !((!(decide (g.from_≥x.from_)&&decide (g.to≤x.to)))&&(!(decide (g.to≤x.from_)||decide (x.to≤g.from_)))))=P.all (iT x):=by
    rw[Bool.eq_iff_iff,List.all_eq_true,List.all_eq_true]
    constructor
    ·intro h g hg
     rw[qL hx (hP g hg)];exact h g hg
    ·intro h g hg
     rw[←qL hx (hP g hg)];exact h g hg
   rw[e]
  ·rfl
theorem f15_eq(t:al):f15 t=some (jo t):=by
 unfold f15 jo
 cases h1:decide ((t.handlers.length:Int)>4096)
 ·have hl:(t.handlers.length:Int)≤4096:=by
   simp only[decide_eq_false_iff_not] at h1
   omega
  rw[cdF,ap,qG t.handlers (f15_l1 t λ_=>some true) (some true) (uJ t) _ rfl oM (λn i hi=>by
   rw[f15_l1,iu hi,cdT,ap,aA hi,bnS,w1 hi oM]
   generalize t.handlers[i]=x
   unfold uJ
   have hat:f33 t x.at_=at1 t x.at_:=rfl
   have hb:(((((decide (x.from_<0))||(decide (x.from_≥x.to)))||(decide (x.to>(List.length t.insns:Int))))||(!(f33 t x.at_)))||((decide (x.at_≥x.from_))&&(decide (x.at_<x.to))))=eG t x:=by
    rw[hat];rfl
   rw[hb]
   cases eG t x
   ·rw[cdF,pP t.handlers i oM (f15_l2 t (i:Int) (λ_ _ _ _=>f15_l1 t (λ_=>some true) n ((i+1:Nat):Int)) x) (f15_l1 t (λ_=>some true) n ((i+1:Nat):Int)) (λg=> !((!(decide (g.from_≥x.from_)&&decide (g.to≤x.to)))&&(!(decide (g.to≤x.from_)||decide (x.to≤g.from_))))) _ rfl oM (λm j hj hji=>by
     rw[f15_l2,dcT (by omega:(j:Int)<(i:Int)),cdT,aA hj,bnS,w1 hj oM]
     generalize t.handlers[j]=g
     cases ((!(decide (g.from_≥x.from_)&&decide (g.to≤x.to)))&&(!(decide (g.to≤x.from_)||decide (x.to≤g.from_))))<;>rfl) (λm=>by rw[f15_l2,gh,cdF])]
    rfl
   ·rfl) (λn=>by rw[f15_l1,gh,cdF]),qV t _ _ λg hg=>by cases hg]
  cases e8 t [] t.handlers<;>rfl
 ·rfl
def lpQ(t:al)(P:List Loop)(x:Loop):Bool:=qc t x&&P.all λy=> !(decide (y.back=x.back))
theorem uG(P:List Loop)(m:List (Int×Bool))(x:Loop):inM (P.foldl (λm x=>bI m x.back true) m) x.back=(inM m x.back|| !(P.all λy=> !(decide (y.back=x.back)))):=by
 induction P generalizing m with
 |nil=>simp
 |cons y P ih=>
  rw[List.foldl_cons,ih,nu,List.all_cons]
  cases decide (y.back=x.back)<;>cases inM m x.back<;>simp
theorem tj(t:al):∀(r P:List Loop),iQ (lpQ t) P r=gQ t (P.foldl (λm x=>bI m x.back true) []) r
 |[],P=>rfl
 |x::r,P=>by
  rw[iQ,gQ,tj t r (P++ [x]),List.foldl_append,uG]
  have e:inM ([]:List (Int×Bool)) x.back=false:=rfl
  rw[e,Bool.false_or,lpQ]
  simp only[List.foldl_cons,List.foldl_nil]
  cases qc t x<;>cases (P.all λy=> !(decide (y.back=x.back)))<;>rfl
theorem uD(t:al)(x:Loop):(((((!(f33 t x.head))||(!(f33 t x.back)))||(decide (x.head>x.back)))||(decide (x.bound<0)))||(decide (x.bound>2147483647)))=(((decide (x.head<0)||decide (x.head>x.back))||(!(at1 t x.back)))||(decide (x.bound<0)||decide (x.bound>2147483647))):=by
 have h1:f33 t x.head=(decide (x.head≥0)&&decide (x.head<(t.insns.length:Int))):=rfl
 have h2:f33 t x.back=(decide (x.back≥0)&&decide (x.back<(t.insns.length:Int))):=rfl
 unfold at1
 rw[h1,h2,Bool.eq_iff_iff]
 simp only[Bool.or_eq_true,Bool.not_eq_true',Bool.and_eq_false_iff,decide_eq_true_eq,decide_eq_false_iff_not]
 omega
theorem f16_eq(t:al):f16 t=some (oJ t):=by
 unfold f16 oJ
 cases h1:decide ((t.loops.length:Int)>4096)
 ·have hl:(t.loops.length:Int)≤4096:=by
   simp only[decide_eq_false_iff_not] at h1
   omega
  rw[cdF,ap,qG t.loops (f16_l1 t λ_=>some true) (some true) (lpQ t) _ rfl oM (λn i hi=>by
   rw[f16_l1,iu hi,cdT,ap,aA hi,bnS,w1 hi oM]
   generalize t.loops[i]=x
   rw[uD]
   unfold lpQ qc
   cases hc:(decide (x.head<0)||decide (x.head>x.back))||(!(at1 t x.back))
   ·have h2:at1 t x.back=true:=by
     cases h:at1 t x.back
     ·rw[h] at hc;simp at hc
     ·rfl
    obtain⟨y,hy,_⟩:=aE (eP.1 h2)
    rw[hy,bnS]
    cases hd:(decide (x.bound<0)||decide (x.bound>2147483647))
    ·rw[Bool.or_self,cdF]
     have e:((((!decide (y.op=29))&&(!decide (y.op=30)))&&(!decide (y.op=31)))||(!decide (y.to=x.head)))= !(f78 y x.head):=by
      unfold f78
      cases decide (y.op=29)<;>cases decide (y.op=30)<;>cases decide (y.op=31)<;>cases decide (y.to=x.head)<;>rfl
     rw[e,pP t.loops i oM (f16_l2 t (i:Int) n (λ_ _ _ _ _ _ _ _ _ _=>f16_l1 t (λ_=>some true) n ((i+1:Nat):Int)) x y) (f16_l1 t (λ_=>some true) n ((i+1:Nat):Int)) (λg=> !(decide (g.back=x.back))) _ rfl oM (λm j hj hji=>by
      rw[f16_l2,dcT (by omega:(j:Int)<(i:Int)),cdT,aA hj,bnS,w1 hj oM]
      generalize t.loops[j]=g
      cases decide (g.back=x.back)<;>rfl) (λm=>by rw[f16_l2,gh,cdF])]
     dsimp only
     cases f78 y x.head<;>rfl
    ·rw[Bool.or_true,Bool.not_true,Bool.and_false,Bool.false_and];rfl
   ·rfl) (λn=>by rw[f16_l1,gh,cdF]),show iQ (lpQ t) [] t.loops=gQ t [] t.loops from tj t _ []]
  cases gQ t [] t.loops<;>rfl
 ·rfl
def l9(z:Bool×Int):Int:=bif z.1 then z.2 else -1
theorem tD(g:Int→bc→Bool×Int)(hg:∀l e,0≤l→l≤256→(g l e).1=true→0≤(g l e).2∧(g l e).2≤256):∀(L:List bc)(l:Int),0≤l→l≤256→(exL g L l).1=true→0≤(exL g L l).2∧(exL g L l).2≤256
 |[],l,h0,h1,_=>⟨h0,h1⟩
 |e::r,l,h0,h1,h=>by
  rw[exL] at h⊢
  cases hb:(g l e).1
  ·rw[hb] at h;cases h
  ·rw[hb,cdT] at h
   rw[cdT]
   have:=hg l e h0 h1 hb
   exact tD g hg r _ this.1 this.2 h
theorem qh(os:List Obj)(ent:Int):∀(n:Nat)(deep left:Int)(e:bc),0≤left→left≤256→(exF os ent n deep left e).1=true→0≤(exF os ent n deep left e).2∧(exF os ent n deep left e).2≤256
 |0,deep,left,e,_,_,h=>by cases h
 |n+1,deep,left,e,h0,h1,h=>by
  rw[exF] at h⊢
  cases hb:((decide (IntKind.i64.wrap (left - 1)<0)||decide (deep>64))||dV os ent e)
  ·rw[hb,cdF] at h
   rw[cdF]
   rw[w64 oM oM] at hb h⊢
   have:¬left - 1<0:=by
    intro hh
    rw[dcT hh] at hb;simp at hb
   exact tD _ (λl e a b c=>qh os ent n (deep+1) l e a b c) _ _ oM oM h
  ·rw[hb] at h;cases h
theorem f35_loop(rec:al→Int→bc→Int→Int→Option Int)(t:al)(ent:Int)(e:bc)(deep:Int)(g:Int→bc→Bool×Int)
  (hr:∀l x,0≤l→l≤256→rec t ent x (IntKind.i64.wrap (deep+1)) l=some (l9 (g l x)))(hg:∀l e,0≤l→l≤256→(g l e).1=true→0≤(g l e).2∧(g l e).2≤256)(hl:e.l.length<9223372036854775808):
  ∀(n i:Nat)(z left:Int),z=(i:Int)→i≤e.l.length→e.l.length<n+i→0≤left→left≤256→f35s_l1 rec t ent e deep (λn=>some n) n left z=some (l9 (exL g (e.l.drop i) left))
 |0,i,z,left,_,_,h,_,_=>oM
 |n+1,i,z,left,hz,hi,h,h0,h1=>by
  subst hz
  rw[f35s_l1,dcT (show left≥0 from h0),Bool.and_true]
  by_cases hh:i<e.l.length
  ·rw[aK hh,iu hh,cdT,aA hh,bnS,hr _ _ h0 h1,bnS,w1 hh hl,exL]
   cases hb:(g left e.l[i]).1
   ·rw[l9,hb,cdF,cdF]
    cases n with
    |zero=>omega
    |succ n=>
     rw[f35s_l1,dcF (show¬(-1:Int)≥0 by omega),Bool.and_false];rfl
   ·have:=hg _ _ h0 h1 hb
    rw[l9,hb,cdT,cdT,f35_loop rec t ent e deep g hr hg hl n (i+1) _ _ rfl oM oM this.1 this.2]
  ·have ei:i=e.l.length:=oM
   subst ei
   rw[gh,cdF,List.drop_eq_nil_of_le (Nat.le_refl _)];rfl
theorem pR(f p a b c d l lo hi:Bool):((!f)||(!((((((a&&b)&&c)&&d)&&l)&&lo)&&hi))||(!p))=(((((((((!f)||(!p))||(!a))||(!b))||(!c))||(!d))||(!l))||(!lo))||(!hi)):=by
 cases f<;>cases p<;>cases a<;>cases b<;>cases c<;>cases d<;>cases l<;>cases lo<;>cases hi<;>rfl
def fw(z:Bool×Int×Int×Int×Int×Int)(e:bc):Bool:=
 ((((((((!z.1)||(!decide ((List.length e.l:Int)=z.2.1)))||(!decide (e.op=z.2.2.1)))||(!decide (e.n=z.2.2.2.1)))||(!decide (e.o=z.2.2.2.2.1)))||(!decide (e.off=z.2.2.2.2.2)))||(!decide (e.len=0)))||(!decide (e.lo=0)))||(!decide (e.hi=0))
theorem oh(os:List Obj)(ent:Int)(e:bc):dV os ent e=fw (co os ent e) e:=rfl
def nC(rec136:al→Int→bc→Int→Int→Option (Int))(t0:al)(entries1:Int)(e2:bc)(deep3:Int)(n4:Int)(parts174:Int)(fine175:Bool)(c01176:Int)(c02177:Int)(c03178:Int)(c04179:Int):Option Int:=
 (bif (((!fine175)||(!(((((((decide (e2.op=c01176))&&(decide (e2.n=c02177)))&&(decide (e2.o=c03178)))&&(decide (e2.off=c04179)))&&(decide (e2.len=0)))&&(decide (e2.lo=0)))&&(decide (e2.hi=0)))))||(!decide ((List.length e2.l:Int)=parts174))) then some (-1) else letk (λ(n186:Int)=>
 some n186) λk187=>
 (f35s_l1 rec136 t0 entries1 e2 deep3 k187 9223372036854775808 (IntKind.i64.wrap (n4 - 1)) 0))
theorem f35s_W(rec136:al→Int→bc→Int→Int→Option (Int))(t:al)(ent:Int)(e:bc)(deep left:Int):f35s rec136 t ent e deep left=
  (bif ((decide (left=0))||(decide (deep>64))) then some (-1) else
  bif (decide (e.kind=1)) then nC rec136 t ent e deep left 0 true 0 e.n 0 0 else
  bif (decide (e.kind=2)) then(Option.bind (f31 t e.o e.off 1) λr181=>Option.bind (bif r181 then(Option.bind (idx t.objs e.o) λx183=>some (!x183.ptr)) else some false) λb182=>nC rec136 t ent e deep left 0 b182 0 0 e.o e.off) else
  bif (decide (e.kind=14)) then nC rec136 t ent e deep left 0 ((decide (e.n≥0))&&(decide (e.n<ent))) 0 e.n 0 0 else
  bif (decide (e.kind=4)) then nC rec136 t ent e deep left 1 true 18 0 0 0 else
  bif (decide (e.kind=5)) then nC rec136 t ent e deep left 2 ((decide (e.op≥7))&&(decide (e.op≤15))) e.op 0 0 0 else
  bif (decide (e.kind=6)) then(bif decide (e.kind=6) then nC rec136 t ent e deep left 2 true 0 0 0 0 else some (-1)) else(bif decide (e.kind=7) then nC rec136 t ent e deep left 2 true 0 0 0 0 else some (-1))):=rfl
theorem u4(rec:al→Int→bc→Int→Int→Option Int)(t:al)(ent:Int)(e:bc)(deep left:Int)(g:Int→bc→Bool×Int)
  (hr:∀l x,0≤l→l≤256→rec t ent x (IntKind.i64.wrap (deep+1)) l=some (l9 (g l x)))(hg:∀l e,0≤l→l≤256→(g l e).1=true→0≤(g l e).2∧(g l e).2≤256)(h0:1≤left)(h1:left≤256)
  (parts:Int)(fine:Bool)(a b c d:Int)(hp:parts≤2):nC rec t ent e deep left parts fine a b c d=some (l9 (bif fw (fine,parts,a,b,c,d) e then(false,IntKind.i64.wrap (left - 1)) else exL g e.l (IntKind.i64.wrap (left - 1)))):=by
 unfold nC
 rw[pR]
 show(bif fw (fine,parts,a,b,c,d) e then _ else _)=_
 cases hs:fw (fine,parts,a,b,c,d) e
 ·have hl:(e.l.length:Int)=parts:=by
   unfold fw at hs
   simp only[Bool.or_eq_false_iff,Bool.not_eq_false',decide_eq_true_eq] at hs
   exact hs.1.1.1.1.1.1.1.2
  rw[cdF,cdF,ap,w64 oM oM,f35_loop rec t ent e deep g hr hg oM _ 0 0 _ rfl (Nat.zero_le _) oM oM oM,List.drop_zero]
 ·rfl
theorem f35s_eq(rec:al→Int→bc→Int→Int→Option Int)(t:al)(ent:Int)(e:bc)(deep left:Int)(g:Int→bc→Bool×Int)
  (hr:∀l x,deep≤64→0≤l→l≤256→rec t ent x (IntKind.i64.wrap (deep+1)) l=some (l9 (g l x)))(hg:∀l e,0≤l→l≤256→(g l e).1=true→0≤(g l e).2∧(g l e).2≤256)(h0:0≤left)(h1:left≤256):
  f35s rec t ent e deep left=some (l9 (bif (decide (IntKind.i64.wrap (left - 1)<0)||decide (deep>64))||dV t.objs ent e then(false,IntKind.i64.wrap (left - 1)) else exL g e.l (IntKind.i64.wrap (left - 1)))):=by
 rw[f35s_W]
 have e0:decide (IntKind.i64.wrap (left - 1)<0)=decide (left=0):=by
  rw[w64 oM oM]
  exact decide_eq_decide.2 oM
 rw[e0]
 cases hc:(decide (left=0)||decide (deep>64))
 ·simp only[Bool.or_eq_false_iff,decide_eq_false_iff_not] at hc
  have W:=u4 rec t ent e deep left g (λl x=>hr l x oM) hg oM h1
  rw[cdF,Bool.false_or,oh]
  unfold co
  cases k1:decide (e.kind=1)
  ·cases k2:decide (e.kind=2)
   ·cases k3:decide (e.kind=14)
    ·cases k4:decide (e.kind=4)
     ·cases k5:decide (e.kind=5)
      ·cases k6:decide (e.kind=6)
       ·cases k7:decide (e.kind=7)
        ·rfl
        ·exact W 2 true 0 0 0 0 oM
       ·exact W 2 true 0 0 0 0 oM
      ·refine(W 2 _ e.op 0 0 0 oM).trans ?_
       have es:fw ((decide (e.op≥7)&&decide (e.op≤15)),2,e.op,0,0,0) e=fw (true,2,(if(if 15<e.op then 15 else e.op)>7 then(if 15<e.op then 15 else e.op) else 7),0,0,0) e:=by
        by_cases hh:7≤e.op∧e.op≤15
        ·have:(if(if 15<e.op then 15 else e.op)>7 then(if 15<e.op then 15 else e.op) else 7)=e.op:=by
          split<;>split at* <;>omega
         rw[this,dcT (show e.op≥7 from hh.1),dcT hh.2];rfl
        ·have:e.op≠(if(if 15<e.op then 15 else e.op)>7 then(if 15<e.op then 15 else e.op) else 7):=by
          split<;>split at* <;>omega
         have h2:(decide (e.op≥7)&&decide (e.op≤15))=false:=by
          rw[Bool.and_eq_false_iff]
          simp only[decide_eq_false_iff_not]
          omega
         unfold fw
         dsimp only
         rw[h2,dcF this]
         simp
       rw[es];rfl
     ·exact W 1 true 18 0 0 0 oM
    ·exact W 0 _ 0 e.n 0 0 oM
   ·rw[cdF,cdF,cdT,cdT,f31_eq t e.o e.off 1 oM,bnS]
    cases hs:spot t.objs e.o e.off 1
    ·exact W 0 false 0 0 e.o e.off oM
    ·obtain⟨y,hy,_⟩:=ep hs
     rw[cdT,hy,bnS,bnS]
     refine(W 0 _ 0 0 e.o e.off oM).trans ?_
     dsimp only
     cases y.ptr<;>rfl
  ·exact W 0 true 0 e.n 0 0 oM
 ·rfl
theorem f35_eq(t:al)(ent:Int):∀(n:Nat)(deep left:Int)(e:bc),1≤deep→deep≤65→66<n+deep→0≤left→left≤256→f35 (n+1) t ent e deep left=some (l9 (exF t.objs ent n deep left e))
 |0,deep,left,e,h0,h1,h2,_,_=>oM
 |n+1,deep,left,e,h0,h1,h2,h3,h4=>by
  rw[f35,exF]
  refine f35s_eq (f35 (n+1)) t ent e deep left (exF t.objs ent n (deep+1)) (λl x hd a b=>?_) (λl x a b c=>qh t.objs ent n (deep+1) l x a b c) h3 h4
  rw[w64 oM oM]
  exact f35_eq t ent n (deep+1) l x oM oM oM a b
theorem f36_eq(t:al)(a:Int):f36 t a=some (chk t a):=by
 unfold f36 chk
 have hat:f33 t a=at1 t a:=rfl
 rw[hat]
 cases h:at1 t a
 ·rw[c8 (λhh=>by rw[eP.2 hh] at h;cases h)];rfl
 ·obtain⟨y,hy,_⟩:=aE (eP.1 h)
  rw[hy]
  dsimp only[bnS,cdT]
  cases decide (y.op=27)<;>rfl
def ckQ(t:al)(P:List ef)(x:ef):Bool:=(chk t x.at_&&(match P.getLast? with|none=>true|some y=>decide (y.at_<x.at_)))&& !(decide (x.kind<1)||decide (x.kind>5))
theorem wv{t:al}{a:Int}(h:chk t a=true):0≤a:=by
 unfold chk at h
 cases hx:idx t.insns a with
 |none=>rw[hx] at h;cases h
 |some y=>exact(cm hx).1
theorem tQ(t:al):∀(r P:List ef),iQ (ckQ t) P r=gC t (match P.getLast? with|none=> -1|some y=>y.at_) r
 |[],P=>rfl
 |x::r,P=>by
  rw[iQ,gC,tQ t r (P++ [x]),List.getLast?_append,ckQ]
  simp only[List.getLast?_singleton,Option.or_some,Option.getD_some]
  cases hc:chk t x.at_
  ·simp
  ·have:=wv hc
   cases P.getLast? with
   |none=>
    dsimp only
    rw[dcT (show(-1:Int)<x.at_ by omega)];simp
   |some y=>
    dsimp only
    cases decide (y.at_<x.at_)<;>simp
theorem f13_l3_eq(t:al)(r:Option Bool)(hl:t.checks.length<9223372036854775808)(n:Nat)(hn:n=9223372036854775808):f13_l3 t (λ_=>r) n 0=bif gC t (-1) t.checks then r else some false:=by
 rw[show gC t (-1) t.checks=iQ (ckQ t) [] t.checks from(tQ t _ []).symm]
 refine qG t.checks (f13_l3 t λ_=>r) r (ckQ t) n hn hl (λm i hi=>?_) (λm=>by rw[f13_l3,gh,cdF])
 rw[f13_l3,iu hi,cdT,aA hi,bnS,w1 hi hl,f36_eq,bnS]
 have hprev:i≠0→idx t.checks (IntKind.i64.wrap ((i:Int) - 1))=(t.checks.take i).getLast? :=λh0=>by
  rw[w64 oM oM,show(i:Int) - 1=((i - 1:Nat):Int) by omega,aA oM,List.getLast?_eq_getElem?,List.length_take,List.getElem?_take_of_lt oM,show min i t.checks.length - 1=i - 1 by omega,geG]
 generalize hx:t.checks[i]=x
 unfold ckQ
 by_cases h0:i=0
 ·subst h0
  rw[dcF (show¬((0:Nat):Int)>0 by omega)]
  cases chk t x.at_<;>cases decide (x.kind<1)<;>cases decide (x.kind>5)<;>rfl
 ·rw[dcT (show((i:Nat):Int)>0 by omega),hprev h0]
  have hs:∃y,(t.checks.take i).getLast? =some y:=by
   rw[←hprev h0,w64 oM oM,show(i:Int) - 1=((i - 1:Nat):Int) by omega,aA oM]
   exact⟨_,rfl⟩
  obtain⟨y,hy⟩:=hs
  rw[hy]
  dsimp only[cdT,bnS]
  have e:decide (y.at_≥x.at_)= !(decide (y.at_<x.at_)):=by
   by_cases h:y.at_<x.at_
   ·rw[dcT h,dcF oM];rfl
   ·rw[dcF h,dcT oM];rfl
  rw[e]
  cases chk t x.at_<;>cases decide (y.at_<x.at_)<;>cases decide (x.kind<1)<;>cases decide (x.kind>5)<;>rfl
theorem f13_l1_eq(t:al)(r:Option Bool)(hl:t.prots.length<9223372036854775808)(n:Nat)(hn:n=9223372036854775808):f13_l1 t (λ_=>r) n 0=bif t.prots.all (ge t) then r else some false:=by
 refine iE t.prots (f13_l1 t λ_=>r) r (ge t) n hn hl (λm i hi=>?_) (λm=>by rw[f13_l1,gh,cdF])
 rw[f13_l1,iu hi,cdT,ap,aA hi,bnS,w1 hi hl]
 generalize t.prots[i]=x
 unfold ge
 cases hc:(decide (x.ceiling<0)||decide (x.ceiling>31))||decide ((x.barriers.length:Int)>8)
 ·have he:(x.barriers.length:Int)≤8:=by
   simp only[Bool.or_eq_false_iff,decide_eq_false_iff_not] at hc
   omega
  rw[cdF,iE x.barriers (f13_l2 t (λ_ _=>f13_l1 t (λ_=>r) m ((i+1:Nat):Int)) x) (f13_l1 t (λ_=>r) m ((i+1:Nat):Int)) (ku t x.barriers.length) _ rfl oM (λk j hj=>by
   rw[f13_l2,iu hj,cdT,aA hj,bnS,w1 hj oM,f35_eq t _ 66 1 256 _ oM oM oM oM oM,bnS]
   unfold ku l9
   have hle:=qh t.objs x.barriers.length 66 1 256 x.barriers[j] oM oM
   cases hb:(exF t.objs x.barriers.length 66 1 256 x.barriers[j]).1
   ·rfl
   ·have:=hle hb
    rw[cdT,dcF oM];rfl) (λk=>by rw[f13_l2,gh,cdF])]
  cases x.barriers.all (ku t x.barriers.length)<;>rfl
 ·rfl
theorem f13_eq(t:al)(hl:t.checks.length<9223372036854775808):f13 t=some (gL t&&gC t (-1) t.checks):=by
 unfold f13 gL
 by_cases h:(t.prots.length:Int)≤32
 ·rw[dcT h,dcF (show¬(t.prots.length:Int)>32 by omega),cdF,ap,ap,f13_l1_eq t _ oM _ rfl,f13_l3_eq t _ hl _ rfl]
  cases t.prots.all (ge t)<;>cases gC t (-1) t.checks<;>rfl
 ·rw[dcF h,dcT (show(t.prots.length:Int)>32 by omega),Bool.and_false];rfl
def sc(c:Int):Bool:=decide (c=68)||(decide (c=65)||(decide (c=66)||(decide (c=78)||(decide (c=77)||decide (c=84)))))
def mt:List Field→List (Int×Int)→Bool
 |[],[]=>true
 |f::F,(c,w)::L=>decide (f.name=c)&&(decide (f.lo=(f130 w).1)&&(decide (f.hi=(f130 w).2)&&(sc c&&(F.all (λg=> !(decide (g.name=c)))&&mt F L))))
 |_,_=>false
def goF(x:ao):List Field→ao→Bool
 |[],c=>(decide (c.op=0))&&((decide (c.d=0))&&((decide (c.a=0))&&((decide (c.b=0))&&((decide (c.n=0))&&((decide (c.m=0))&&((decide (c.to=0))&&true))))))
 |f::F,c=> !((decide ((f63 x f.name)<f.lo))||(decide ((f63 x f.name)>f.hi)))&&goF x F (f64 c f.name 0)
theorem gj{c:Int}(h:sc c=true):c=68∨c=65∨c=66∨c=78∨c=77∨c=84:=by
 unfold sc at h
 simpa only[Bool.or_eq_true,decide_eq_true_eq] using h
theorem f63_set{c:ao}{a b:Int}(ha:sc a=true)(hb:sc b=true)(h:b≠a):f63 (f64 c a 0) b=f63 c b:=by
 rcases gj ha with rfl|rfl|rfl|rfl|rfl|rfl<;>rcases gj hb with rfl|rfl|rfl|rfl|rfl|rfl<;>first|exact absurd rfl h|rfl
theorem f64_op(c:ao)(a:Int):(f64 c a 0).op=c.op:=by
 unfold f64
 rw[ap]
 cases decide (a=68)<;>cases decide (a=65)<;>cases decide (a=66)<;>cases decide (a=78)<;>cases decide (a=77)<;>rfl
theorem p7:∀{F:List Field}{L:List (Int×Int)},mt F L=true→∀f∈F,sc f.name=true
 |[],_,_,f,hf=>by cases hf
 |g::F,[],h,_,_=>by cases h
 |g::F,(c,w)::L,h,f,hf=>by
  simp only[mt,Bool.and_eq_true,decide_eq_true_eq] at h
  rcases List.mem_cons.1 hf with rfl|hf
  ·rw[h.1];exact h.2.2.2.1
  ·exact p7 h.2.2.2.2.2 f hf
theorem tt(x:ao):∀(F:List Field)(L:List (Int×Int))(c:ao),mt F L=true→(∀f∈F,f63 c f.name=f63 x f.name)→c.op=0→goF x F c=fl L c.d c.a c.b c.n c.m c.to
 |[],[],c,_,_,h=>by rw[goF,fl,h];rfl
 |[],_::_,c,h,_,_=>by cases h
 |_::_,[],c,h,_,_=>by cases h
 |f::F,(ch,w)::L,c,h,hc,h0=>by
  have hs:=p7 h
  simp only[mt,Bool.and_eq_true,decide_eq_true_eq] at h
  obtain⟨h1,h2,h3,h4,h5,h6⟩:=h
  have hne:∀g∈F,g.name≠ch:=λg hg=>by
   have:=List.all_eq_true.1 h5 g hg
   simpa using this
  have ih:=tt x F L (f64 c f.name 0) h6 (λg hg=>by
   rw[f63_set (hs f List.mem_cons_self) (hs g (List.mem_cons_of_mem _ hg)) (by rw[h1];exact hne g hg)]
   exact hc g (List.mem_cons_of_mem _ hg)) (by rw[f64_op];exact h0)
  rw[goF,ih,←hc f List.mem_cons_self,h2,h3,h1]
  rcases gj h4 with rfl|rfl|rfl|rfl|rfl|rfl<;>rfl
theorem f38_l1_eq(x:ao)(r:Row×Bool)(E:Bool)(hl:r.1.fields.length<9223372036854775808):∀(n i:Nat)(z:Int)(c:ao),z=(i:Int)→i≤r.1.fields.length→r.1.fields.length<n+i→
  f38_l1 x r (λo d a b n m t=>some (((decide (o=0))&&((decide (d=0))&&((decide (a=0))&&((decide (b=0))&&((decide (n=0))&&((decide (m=0))&&((decide (t=0))&&true)))))))&&E)) n z c.op c.d c.a c.b c.n c.m c.to=some (goF x (r.1.fields.drop i) c&&E)
 |0,i,z,c,_,_,h=>oM
 |n+1,i,z,c,hz,hi,h=>by
  subst hz
  rw[f38_l1]
  by_cases hh:i<r.1.fields.length
  ·rw[aK hh,goF,iu hh,cdT,aA hh,bnS,w1 hh hl]
   have ih:=f38_l1_eq x r E hl n (i+1) _ (f64 c (r.1.fields[i]).name 0) rfl oM oM
   have ec:ao.mk c.op c.d c.a c.b c.n c.m c.to=c:=rfl
   rw[ec,ih]
   generalize r.1.fields[i]=f
   cases ((decide ((f63 x f.name)<f.lo))||(decide ((f63 x f.name)>f.hi)))<;>rfl
  ·have e:i=r.1.fields.length:=oM
   subst e
   rw[gh,cdF,List.drop_eq_nil_of_le (Nat.le_refl _)];rfl
theorem f62_l1_eq(o:Int)(k:Option (Row×Bool))(hf:∀r∈f102,r.op≠o):∀(n i:Nat)(z:Int),z=(i:Int)→i≤f102.length→f102.length<n+i→f62_l1 o (λ_=>k) n z=k
 |0,i,z,_,_,h=>oM
 |n+1,i,z,hz,hi,h=>by
  subst hz
  have h57:f102.length=57:=rfl
  rw[f62_l1]
  by_cases hh:i<f102.length
  ·rw[iu hh,cdT,aA hh,bnS,dcF (hf _ (List.getElem_mem hh)),cdF,w1 hh oM]
   exact f62_l1_eq o k hf n (i+1) _ rfl oM oM
  ·have e:i=f102.length:=oM
   subst e
   rw[gh,cdF]
theorem f102_ops:(f102.all λr=>decide (1≤r.op)&&decide (r.op≤57))=true:=by decide+kernel
theorem f62_ok:∀k,k<57→(match f62 ((k:Nat)+1:Int) with|some r=>r.2&&(Nat.blt r.1.fields.length 100&&mt r.1.fields (jp ((k:Nat)+1:Int)))|none=>false)=true:=by decide+kernel
theorem f62_out{o:Int}(h:¬(1≤o∧o≤57)):f62 o=some ((Row.mk 0 ByteArray.empty []),false):=by
 unfold f62
 rw[ap]
 refine f62_l1_eq o _ (λr hr he=>?_) _ 0 0 rfl (Nat.zero_le _) (by have h57:f102.length=57:=rfl;omega)
 have:=List.all_eq_true.1 f102_ops r hr
 simp only[Bool.and_eq_true,decide_eq_true_eq] at this
 omega
theorem uN:jp 37=[(78,107),(77,115)]:=by decide+kernel
theorem f38_eq(x:ao):f38 x=some (fR x):=by
 unfold f38 fR
 by_cases h:1≤x.op∧x.op≤57
 ·obtain⟨k,hk⟩:∃k:Nat,x.op=(k:Int)+1:=⟨(x.op - 1).toNat,oM⟩
  have hf:=f62_ok k oM
  rw[←hk] at hf
  cases hr:f62 x.op with
  |none=>rw[hr] at hf;cases hf
  |some r=>
   rw[hr] at hf
   dsimp only at hf
   simp only[Bool.and_eq_true] at hf
   obtain⟨h2,h3,h4⟩:=hf
   have hlen:r.1.fields.length<100:=by simpa[Nat.blt_eq] using h3
   rw[bnS,h2,Bool.not_true,cdF,ap]
   have key:=f38_l1_eq x r (((!decide (x.op=27))||(decide (x.n≤x.m)))&&(((!decide (x.op=37))||(!decide (x.n=6)))||(decide (x.m=0)))) oM 9223372036854775808 0 0 (ao.mk 0 x.d x.a x.b x.n x.m x.to) rfl (Nat.zero_le _) oM
   rw[List.drop_zero,tt x _ _ _ h4 (λf hf=>by
    have:=p7 h4 f hf
    rcases gj this with e|e|e|e|e|e<;>rw[e]<;>rfl) rfl] at key
   have e1:decide (1≤x.op)=true:=dcT h.1
   have e2:decide (x.op≤57)=true:=dcT h.2
   have e3:decide (x.n>x.m)= !(decide (x.n≤x.m)):=by
    by_cases hh:x.n≤x.m
    ·rw[dcT hh,dcF oM];rfl
    ·rw[dcF hh,dcT oM];rfl
   rw[e1,e2,e3]
   refine Eq.trans ?_ (key.trans ?_)
   ·simp only[Bool.and_assoc]
   ·dsimp only
    congr 1
    cases hfl:fl (jp x.op) x.d x.a x.b x.n x.m x.to
    ·simp
    ·by_cases h37:x.op=37
     ·have hn:6≤x.n∧x.n≤7:=by
       rw[h37,uN] at hfl
       simp only[fl,rng,f130] at hfl
       simp at hfl
       omega
      have:IntKind.u8.wrap x.n=x.n:=by
       rcases(show x.n=6∨x.n=7 by omega) with e|e<;>rw[e]<;>rfl
      rw[this]
      cases decide (x.op=27)<;>cases decide (x.n≤x.m)<;>cases decide (x.op=37)<;>cases decide (x.n=6)<;>cases decide (x.m=0)<;>rfl
     ·rw[dcF h37]
      cases decide (x.op=27)<;>cases decide (x.n≤x.m)<;>cases decide (x.n=6)<;>cases decide (x.m=0)<;>simp
 ·rw[f62_out h]
  have e2:(decide (1≤x.op)&&decide (x.op≤57))=false:=by
   rw[Bool.and_eq_false_iff]
   simp only[decide_eq_false_iff_not]
   omega
  rw[e2];rfl
theorem f39_eq(t:al)(a m:Int)(h0:0≤a)(h1:0≤m)(h2:a≤65536)(h3:m≤65536)(hl:t.insns.length≤65536):f39 t a m=some (decide ((IntKind.i64.wrap (a+m))≤(t.insns.length:Int))&&(bD t.insns a (IntKind.i64.wrap (a+m))).all (λy=>decide (y.op=29))):=by
 unfold f39
 rw[w64 oM oM]
 by_cases h:a+m≤(t.insns.length:Int)
 ·rw[dcT h,dcF (show¬a+m>(t.insns.length:Int) by omega),cdF,ap]
  have hL:(t.insns.take (a+m).toNat).length=(a+m).toNat:=by rw[List.length_take];omega
  have:=ww (t.insns.take (a+m).toNat) (f39_l1 t a m λ_=>some true) (some true) (λy=>decide (y.op=29)) oM (λn i hi=>by
   rw[f39_l1,w64 (x:=a+m) oM oM,dcT (show(i:Int)<a+m by omega),cdT,aA oM,bnS,w1 (n:=t.insns.length) oM oM,List.getElem_take]
   generalize t.insns[i]=y
   cases decide (y.op=29)<;>rfl) (λn=>by
   rw[f39_l1,w64 (x:=a+m) oM oM,dcF (show¬(((t.insns.take (a+m).toNat).length:Nat):Int)<a+m by omega),cdF]) 9223372036854775808 a.toNat a oM oM oM
  rw[this]
  have e:bD t.insns a (a+m)=(t.insns.take (a+m).toNat).drop a.toNat:=by
   rw[bD,List.drop_take]
  rw[e]
  cases ((t.insns.take (a+m).toNat).drop a.toNat).all (λy=>decide (y.op=29))<;>rfl
 ·rw[dcF h,dcT (show a+m>(t.insns.length:Int) by omega)];rfl
theorem f40_eq(t:al)(a n:Int)(hl:∀x∈t.tasks,x.entries.length<9223372036854775808):∃e,f40 t a n=some (e,(kB t a n).2)∧((kB t a n).2=true→(∃x∈t.tasks,e∈x.entries)∧IntKind.i64.wrap (IntKind.i64.wrap ((List.length e.ins:Int)+(List.length e.outs:Int))+1)=(kB t a n).1):=by
 unfold f40 kB
 by_cases h:0≤a∧a<t.tasks.length
 ·obtain⟨y,hy,hym⟩:=aE h
  rw[hy,dcF (show¬a<0 by omega),dcF (show¬a≥(t.tasks.length:Int) by omega)]
  dsimp only[bnS]
  by_cases h2:0≤n∧n<y.entries.length
  ·obtain⟨e,he,hem⟩:=aE h2
   rw[he,dcF (show¬n<0 by omega)]
   simp only[Bool.or_self,cdF,bnS]
   rw[dcF (show¬n≥(y.entries.length:Int) by omega)]
   exact⟨e,rfl,λ_=>⟨⟨y,hym,hem⟩,rfl⟩⟩
  ·rw[c8 h2]
   by_cases h3:n<0
   ·rw[dcT h3];exact⟨_,rfl,λh=>by cases h⟩
   ·rw[dcF h3]
    simp only[Bool.or_self,cdF,bnS]
    rw[dcT (show n≥(y.entries.length:Int) by omega)];exact⟨_,rfl,λh=>by cases h⟩
 ·rw[c8 h]
  have:(decide (a<0)||decide (a≥(t.tasks.length:Int)))=true:=by
   rw[Bool.or_eq_true]
   simp only[decide_eq_true_eq]
   omega
  rw[this];exact⟨_,rfl,λh=>by cases h⟩
theorem f41_eq(t:al)(p n:Int):f41 t p n=some (rZ t p n):=by
 unfold f41 rZ
 by_cases h:0≤p∧p<t.prots.length
 ·obtain⟨y,hy,_⟩:=aE h
  rw[hy,dcT (show p≥0 by omega),dcT h.2]
  by_cases h3:0≤n
  ·rw[dcT (show n≥0 from h3)];rfl
  ·rw[dcF (show¬n≥0 from h3)];rfl
 ·rw[c8 h]
  have:(decide (p≥0)&&decide (p<(t.prots.length:Int)))=false:=by
   rw[Bool.and_eq_false_iff]
   simp only[decide_eq_false_iff_not]
   omega
  rw[this];rfl
theorem flds5:jp 5=[(68,114),(65,114),(66,108),(78,111),(77,115)]:=by decide+kernel
theorem flds6:jp 6=[(68,114),(65,114),(66,108),(78,111),(77,115)]:=by decide+kernel
theorem wk:jp 43=[(68,114),(78,101),(77,113)]:=by decide+kernel
theorem wj:jp 52=[(65,112),(66,101),(78,98),(84,115)]:=by decide+kernel
theorem tn{x:ao}(h:fR x=true)(ho:x.op=5∨x.op=6):0≤x.b:=by
 unfold fR at h
 have e:jp x.op=[(68,114),(65,114),(66,108),(78,111),(77,115)]:=by
  rcases ho with e|e<;>rw[e]
  ·exact flds5
  ·exact flds6
 rw[e] at h
 simp only[Bool.and_eq_true] at h
 have:=h.2.2
 simp only[fl,rng,f130] at this
 simp at this
 omega
theorem wg{x:ao}(h:fR x=true)(ho:x.op=43): -1≤x.m:=by
 unfold fR at h
 rw[ho,wk] at h
 simp only[Bool.and_eq_true] at h
 have:=h.2.2
 simp only[fl,rng,f130] at this
 simp at this
 omega
theorem tp{x:ao}(h:fR x=true)(ho:x.op=52):0≤x.to:=by
 unfold fR at h
 rw[ho,wj] at h
 simp only[Bool.and_eq_true] at h
 have:=h.2.2
 simp only[fl,rng,f130] at this
 simp at this
 omega
theorem mH{t:al}(hT:dG t=true){x:bJ}(hx:x∈t.tasks){e:bO}(he:e∈x.entries):(e.ins.length:Int)≤8∧(e.outs.length:Int)≤8:=by
 unfold dG at hT
 rw[Bool.and_eq_true] at hT
 have:=List.all_eq_true.1 hT.2 x hx
 unfold dH at this
 rw[Bool.and_eq_true] at this
 have:=List.all_eq_true.1 this.2 e he
 unfold d7 dF at this
 simp only[Bool.and_eq_true,decide_eq_true_eq] at this
 exact⟨this.1.1,this.2.1⟩
theorem qi{t:al}(hT:dG t=true):∀x∈t.tasks,x.entries.length<9223372036854775808:=λx hx=>by
 unfold dG at hT
 rw[Bool.and_eq_true] at hT
 have:=List.all_eq_true.1 hT.2 x hx
 unfold dH at this
 simp only[Bool.and_eq_true,Bool.not_eq_true',Bool.or_eq_false_iff,decide_eq_false_iff_not] at this
 omega
theorem f17_eq(t:al)(x:ao)(hT:dG t=true)(hl:t.insns.length≤65536):f17 t x=some (fj t x):=by
 unfold f17 fj
 rw[f38_eq,bnS]
 cases hm:fR x
 ·rfl
 ·rw[Bool.not_true,cdF,Bool.true_and]
  simp only[ap,f41_eq]
  have hat:f33 t x.to=at1 t x.to:=rfl
  rw[hat,f31_eq t x.n x.m 1 oM]
  cases decide (x.op=3)
  ·cases decide (x.op=4)
   ·cases h5:decide (x.op=5)
    ·cases h6:decide (x.op=6)
     ·cases decide (x.op=29)
      ·cases decide (x.op=30)
       ·cases decide (x.op=31)
        ·cases h32:decide (x.op=32)
         ·cases decide (x.op=33)
          ·cases decide (x.op=44)
           ·cases decide (x.op=45)
            ·cases decide (x.op=46)
             ·cases decide (x.op=56)
              ·cases decide (x.op=50)
               ·obtain⟨e,he,hn⟩:=f40_eq t x.a x.b (qi hT)
                rw[he]
                cases decide (x.op=49)
                ·cases h52:decide (x.op=52)
                 ·cases decide (x.op=53)
                  ·cases decide (x.op=55)
                   ·cases decide (x.op=54)
                    ·cases h43:decide (x.op=43)
                     ·rfl
                     ·have:=wg hm (of_decide_eq_true h43)
                      have e:decide (x.m= -1)=decide (x.m<0):=decide_eq_decide.2 oM
                      rw[e]
                      cases decide (x.m<0)<;>rfl
                    ·rfl
                   ·rfl
                  ·rfl
                 ·have:=tp hm (of_decide_eq_true h52)
                  have e:at1 t x.to=decide (x.to<(t.insns.length:Int)):=by
                   unfold at1
                   rw[dcT (show x.to≥0 from this),Bool.true_and]
                  rw[e];rfl
                ·cases hs:(kB t x.a x.b).2
                 ·rfl
                 ·obtain⟨⟨y,hy,hem⟩,hw⟩:=hn hs
                  have:=mH hT hy hem
                  dsimp only[cdT,cdF,bnS,Bool.or_false,Bool.true_and]
                  rw[hw,f31_eq t x.n 0 _ (by
                   rw[←hw,w64 (x:=(List.length e.ins:Int)+(List.length e.outs:Int)) oM oM,w64 oM oM]
                   omega)]
                  rfl
               ·rfl
              ·rfl
             ·rfl
            ·rfl
           ·rfl
          ·rfl
         ·obtain⟨a1,a2,a3,a4⟩:=nv hm (of_decide_eq_true h32)
          rw[f39_eq t x.to x.m a1 oM oM a4 hl]
          rfl
        ·rfl
       ·rfl
      ·rfl
     ·rw[f31_eq t x.n x.m x.b (tn hm (.inr (of_decide_eq_true h6)))];rfl
    ·rw[f31_eq t x.n x.m x.b (tn hm (.inl (of_decide_eq_true h5)))];rfl
   ·rfl
  ·rfl
theorem ni:∀(N:Nat)(L:List Nat),L.Nodup→(∀x∈L,x<N)→L.length≤N
 |0,[],_,_=>Nat.le_refl _
 |0,x::L,_,h=>absurd (h x List.mem_cons_self) (Nat.not_lt_zero _)
 |N+1,L,hn,h=>by
  by_cases hm:N∈L
  ·have h1:=List.length_erase_of_mem hm
   have h2:=ni N (L.erase N) (hn.erase N) (λx hx=>by
    have h3:=h x (List.mem_of_mem_erase hx)
    have h4:x≠N:=λe=>by subst e;exact hn.not_mem_erase hx
    omega)
   omega
  ·have:=ni N L hn (λx hx=>by
    have h3:=h x hx
    have h4:x≠N:=λe=>hm (e▸hx)
    omega)
   omega
def szS(L:List Obj):Nat:=(L.map λo=>o.size.toNat).sum
theorem m5:∀(L:List Obj)(a:Int),(∀o∈L,1≤o.size∧o.size≤16384)→0≤a→a+16384*(L.length:Int)≤9223372036854775807→m6 a L=a+(szS L:Int)
 |[],a,_,_,_=>by simp[m6,szS]
 |o::L,a,h,h0,h1=>by
  have ho:=h o List.mem_cons_self
  have hl:((o::L).length:Int)=(L.length:Int)+1:=sM
  rw[hl] at h1
  have ih:=m5 L (a+o.size) (λx hx=>h x (List.mem_cons_of_mem _ hx)) oM oM
  have e1:m6 a (o::L)=m6 (a+o.size) L:=by
   show m6 (IntKind.i64.wrap (a+o.size)) L=_
   rw[w64 oM oM]
  have e2:szS (o::L)=o.size.toNat+szS L:=by simp[szS]
  rw[e1,ih,e2]
  push_cast
  omega
theorem jg{L:List Obj}{i:Nat}(h:i<L.length):szS (L.take (i+1))=szS (L.take i)+L[i].size.toNat:=by
 unfold szS
 rw[List.take_succ_eq_append_getElem h,List.map_append,List.sum_append,List.map_cons,List.map_nil,List.sum_cons,List.sum_nil,Nat.add_zero]
theorem kN{L:List Obj}:∀{i j:Nat},i≤j→szS (L.take i)≤szS (L.take j):=by
 intro i j h
 induction h with
 |refl=>exact Nat.le_refl _
 |step h ih=>
  rename_i m
  by_cases hm:m<L.length
  ·rw[jg hm];omega
  ·have e:L.take (m+1)=L.take m:=by rw[List.take_of_length_le oM,List.take_of_length_le oM]
   rw[e];exact ih
def pos(os:List Obj)(x:bZ):Nat:=szS (os.take x.o.toNat)+x.slot.toNat
theorem iW{os:List Obj}(ho:∀o∈os,1≤o.size∧o.size≤16384){x:bZ}(h:dm os x=true):0≤x.o∧x.o.toNat<os.length∧0≤x.slot∧∀h:x.o.toNat<os.length,x.slot.toNat<os[x.o.toNat].size.toNat:=by
 unfold dm at h
 rw[Bool.and_eq_true] at h
 obtain⟨y,hy,h1,h2⟩:=ep h.1
 have hb:=cm hy
 have hsz:=ho y (cg hy)
 rw[w64 oM oM] at h2
 refine⟨hb.1,oM,h1,λhh=>?_⟩
 have e:os[x.o.toNat]=y:=by
  have:=aA hh
  rw[show((x.o.toNat:Nat):Int)=x.o by omega,hy] at this
  exact(inS this).symm
 rw[e]
 omega
theorem s6{os:List Obj}(ho:∀o∈os,1≤o.size∧o.size≤16384){x:bZ}(h:dm os x=true):pos os x<szS os:=by
 obtain⟨_,h1,_,h2⟩:=iW ho h
 have h3:=h2 h1
 have h4:=jg h1
 have h5:=kN (L:=os) (i:=x.o.toNat+1) (j:=os.length) oM
 rw[List.take_length] at h5
 unfold pos
 omega
theorem ur{os:List Obj}(ho:∀o∈os,1≤o.size∧o.size≤16384){x y:bZ}(hx:dm os x=true)(hy:dm os y=true)(h:pos os x=pos os y):x.o=y.o∧x.slot=y.slot:=by
 obtain⟨a0,a1,a2,a3⟩:=iW ho hx
 obtain⟨b0,b1,b2,b3⟩:=iW ho hy
 have a4:=a3 a1
 have b4:=b3 b1
 have a5:=jg a1
 have b5:=jg b1
 unfold pos at h
 rcases Nat.lt_trichotomy x.o.toNat y.o.toNat with hlt|heq|hgt
 ·have:=kN (L:=os) (i:=x.o.toNat+1) (j:=y.o.toNat) hlt
  omega
 ·rw[heq] at h
  omega
 ·have:=kN (L:=os) (i:=y.o.toNat+1) (j:=x.o.toNat) hgt
  omega
theorem gT{os:List Obj}(ho:∀o∈os,1≤o.size∧o.size≤16384):∀(r P:List bZ),gi os P r=true→(∀x∈P,dm os x=true)→(P.map (pos os)).Nodup→((P++r).map (pos os)).Nodup∧∀x∈P++r,dm os x=true
 |[],P,_,h1,h2=>by rw[List.append_nil];exact⟨h2,h1⟩
 |x::r,P,h,h1,h2=>by
  rw[gi] at h
  simp only[Bool.and_eq_true] at h
  obtain⟨⟨hx,hP⟩,hr⟩:=h
  have ih:=gT ho r (P++ [x]) hr (λy hy=>by
   rcases List.mem_append.1 hy with hy|hy
   ·exact h1 y hy
   ·rw[List.mem_singleton] at hy;subst hy;exact hx) (by
   rw[List.map_append,List.nodup_append]
   refine⟨h2,sM,λa ha b hb=>?_⟩
   simp only[List.map_cons,List.map_nil,List.mem_singleton] at hb
   subst hb
   intro e
   obtain⟨y,hy,rfl⟩:=List.mem_map.1 ha
   have hi:=ur ho (h1 y hy) hx e
   have:=List.all_eq_true.1 hP y hy
   unfold neI at this
   rw[dcT hi.1,dcT hi.2] at this
   cases this)
  rw[List.append_assoc,List.singleton_append] at ih
  exact ih
theorem jN{os:List Obj}(h:os.all (d5 os)=true):∀o∈os,1≤o.size∧o.size≤16384:=λo ho=>by
 have:=List.all_eq_true.1 h o ho
 unfold d5 at this
 simp only[Bool.and_eq_true,Bool.not_eq_true',Bool.or_eq_false_iff,decide_eq_false_iff_not] at this
 omega
theorem f11_eq(t:al)(hl:t.inits.length<9223372036854775808)(hs:∀o∈t.objs,o.set_.length<9223372036854775808):f11 t=some (gO t):=by
 unfold f11 gO
 cases h1:(decide ((t.objs.length:Int)>4096)||decide (t.excs<4))||decide (t.excs>64)
 ·have hol:(t.objs.length:Int)≤4096:=by
   simp only[Bool.or_eq_false_iff,decide_eq_false_iff_not] at h1
   omega
  rw[Bool.false_or,Bool.not_false,Bool.true_and]
  have hi:gi t.objs [] t.inits=dg t.objs [] t.inits:=jP t.objs t.inits []
  have core:f11_l1 t (λn111=>letk (λ(_:Unit)=>some (decide (n111≤65536))) λk122=>f11_l2 t k122 9223372036854775808 0) 9223372036854775808 0 0=some (t.objs.all (d5 t.objs)&&(dg t.objs [] t.inits&&decide (m6 0 t.objs≤65536))):=by
   rw[f11_l1_eq t _ oM hs _ 0 0 0 rfl (Nat.zero_le _) oM,List.drop_zero]
   cases t.objs.all (d5 t.objs)
   ·rfl
   ·rw[cdT,ap,f11_l2_eq t _ hl hs _ 0 0 rfl (Nat.zero_le _) oM,List.drop_zero,List.take_zero,hi]
    cases dg t.objs [] t.inits<;>rfl
  by_cases h2:(t.inits.length:Int)>65536
  ·rw[dcT h2,cdT]
   congr 1
   cases ha:t.objs.all (d5 t.objs)
   ·rfl
   ·have ho:=jN ha
    rw[Bool.true_and]
    cases hb:dg t.objs [] t.inits
    ·rfl
    ·rw[Bool.true_and]
     have hn:=gT ho t.inits [] (by rw[hi];exact hb) (λx hx=>by cases hx) List.nodup_nil
     rw[List.nil_append] at hn
     have hp:=ni (szS t.objs) (t.inits.map (pos t.objs)) hn.1 (λx hx=>by
      obtain⟨y,hy,rfl⟩:=List.mem_map.1 hx
      exact s6 ho (hn.2 y hy))
     rw[List.length_map] at hp
     have hS:=m5 t.objs 0 ho oM oM
     rw[dcF]
     omega
  ·rw[dcF h2,cdF,ap]
   exact core
 ·rw[Bool.true_or];rfl
theorem f5_l1_eq(t:al)(r:Option Bool)(hT:dG t=true)(hl:t.insns.length≤65536)(n:Nat)(hn:n=9223372036854775808):f5_l1 t (λ_=>r) n 0=bif t.insns.all (fj t) then r else some false:=by
 refine iE t.insns (f5_l1 t λ_=>r) r (fj t) n hn oM (λm i hi=>?_) (λm=>by rw[f5_l1,gh,cdF])
 rw[f5_l1,iu hi,cdT,aA hi,bnS,w1 hi oM,f17_eq t _ hT hl,bnS]
 cases fj t t.insns[i]<;>rfl
theorem f5_eq(t:al)(h:Sz t)(ha:SzA t):f5 t=some (MayB t):=by
 unfold f5 MayB
 cases h1:decide ((t.insns.length:Int)<1)||decide ((t.insns.length:Int)>65536)
 ·have hol:(1:Int)≤t.insns.length∧(t.insns.length:Int)≤65536:=by
   simp only[Bool.or_eq_false_iff,decide_eq_false_iff_not] at h1
   omega
  rw[cdF,f11_eq t h.inits h.sets,f12_eq,f13_eq t h.checks,f15_eq,f16_eq]
  cases hO:gO t
  ·simp
  ·cases hT:dG t
   ·simp
   ·have ho:∀o∈t.objs,1≤o.size∧o.size≤16384:=by
     unfold gO at hO
     simp only[Bool.and_eq_true] at hO
     exact jN hO.2.1
    rw[f14_eq t ha (λo y hy=>by have:=ho y (cg hy);omega)]
    obtain⟨x,hx,_⟩:=aE (L:=t.insns) (i:=(t.insns.length:Int) - 1) oM
    rw[ap,w64 oM oM,f5_l1_eq t _ hT oM _ rfl]
    unfold qS
    rw[hx]
    dsimp only[bnS]
    have e:nq x=(((decide (x.op=29)||decide (x.op=33))||decide (x.op=34))||decide (x.op=57)):=by
     unfold nq
     simp only[Bool.or_assoc]
    rw[e]
    generalize(((decide (x.op=29)||decide (x.op=33))||decide (x.op=34))||decide (x.op=57))=b0
    generalize t.insns.all (fj t)=b9
    cases gL t
    ·simp
    ·cases gC t (-1) t.checks
     ·simp
     ·cases kh t
      ·simp
      ·cases gS t
       ·simp
       ·cases jo t
        ·simp
        ·cases oJ t
         ·simp
         ·cases b0<;>cases b9<;>rfl
 ·rfl
abbrev Pl(a:Int):Prop:= -4611686018427387904≤a∧a<4611686018427387904
def jmp(x:ao):Bool:=((decide (x.op≥29))&&(decide (x.op≤32)))||(decide (x.op=52))
theorem kU{t:al}{a:Int}(h:at1 t a=true)(hl:t.insns.length≤65536):Pl a:=by
 have:=eP.1 h
 constructor<;>omega
theorem oQ{t:al}:∀{L P:List bB},e8 t P L=true→∀x∈L,eG t x=false
 |[],_,_,x,hx=>by cases hx
 |y::r,P,h,x,hx=>by
  rw[e8] at h
  simp only[Bool.and_eq_true,Bool.not_eq_true'] at h
  rcases List.mem_cons.1 hx with rfl|hx
  ·exact h.1.1
  ·exact oQ h.2 x hx
theorem qQ{t:al}:∀{L:List Loop}{m:List (Int×Bool)},gQ t m L=true→∀x∈L,qc t x=true
 |[],_,_,x,hx=>by cases hx
 |y::r,P,h,x,hx=>by
  rw[gQ] at h
  simp only[Bool.and_eq_true] at h
  rcases List.mem_cons.1 hx with rfl|hx
  ·exact h.1.2
  ·exact qQ h.2 x hx
theorem q9{t:al}:∀{L:List ef}{last:Int},gC t last L=true→∀x∈L,chk t x.at_=true
 |[],_,_,x,hx=>by cases hx
 |y::r,P,h,x,hx=>by
  rw[gC] at h
  simp only[Bool.and_eq_true] at h
  rcases List.mem_cons.1 hx with rfl|hx
  ·exact h.1.1.2
  ·exact q9 h.2 x hx
theorem tS{t:al}{a:Int}(h:chk t a=true):∃x,idx t.insns a=some x∧(x.op=27∨x.op=28):=by
 unfold chk at h
 cases hx:idx t.insns a with
 |none=>rw[hx] at h;cases h
 |some x=>
  rw[hx] at h
  simp only[Bool.or_eq_true,decide_eq_true_eq] at h
  exact⟨x,rfl,h⟩
theorem tT{t:al}{a:Int}(h:chk t a=true):0≤a∧a<t.insns.length:=by
 obtain⟨x,hx,_⟩:=tS h
 exact cm hx
theorem q'{t:al}:∀(L:List ef)(last:Int),gC t last L=true→-1≤last→last<t.insns.length→(L.length:Int)+last+1≤t.insns.length
 |[],last,_,h1,h2=>by simp;omega
 |x::r,last,h,h1,h2=>by
  simp only[gC,Bool.and_eq_true,decide_eq_true_eq] at h
  have hx:=tT h.1.1.2
  have:=q' r x.at_ h.2 oM hx.2
  simp;omega
theorem rV{t:al}(hm:gO t=true):t.inits.length≤65536:=by
 unfold gO at hm
 simp only[Bool.and_eq_true,Bool.not_eq_true',Bool.or_eq_false_iff,decide_eq_false_iff_not,decide_eq_true_eq] at hm
 obtain⟨h1,h2,h3,h4⟩:=hm
 have ho:=jN h2
 have hi:gi t.objs [] t.inits=true:=by rw[←h3];exact jP t.objs t.inits []
 obtain⟨n1,n2⟩:=gT ho t.inits [] hi sM sM
 rw[List.nil_append] at n1 n2
 have hp:=ni (szS t.objs) _ n1 (λx hx=>by
  obtain⟨y,hy,rfl⟩:=List.mem_map.1 hx
  exact s6 ho (n2 y hy))
 rw[List.length_map] at hp
 rw[m5 t.objs 0 ho oM oM] at h4
 omega
structure Bdt(t:al):Prop where
 n:1≤t.insns.length∧t.insns.length≤65536
 handlers:t.handlers.length≤4096
 loops:t.loops.length≤4096
 selects:t.selects.length≤1024
 alts:∀x∈t.selects,x.alts.length≤16
 lists:t.lists.length≤4096
 list:∀l∈t.lists,l.length≤32
 objs:t.objs.length≤4096
 sets:∀o∈t.objs,o.set_.length≤4096
 inits:t.inits.length≤65536
 tasks:t.tasks.length≤32
 entries:∀x∈t.tasks,x.entries.length≤8
 forms:∀x∈t.tasks,∀e∈x.entries,e.ins.length≤8∧e.outs.length≤8
 prots:t.prots.length≤32
 bars:∀p∈t.prots,p.barriers.length≤8∧∀b∈p.barriers,ku t p.barriers.length b=true
 checks:t.checks.length≤65536
 plI:∀x∈t.insns,jmp x=true→Pl x.to
 plH:∀x∈t.handlers,Pl x.from_∧Pl x.to∧Pl x.at_
 okH:∀x∈t.handlers,x.from_<x.to
 plL:∀x∈t.loops,Pl x.head∧Pl x.back
 plA:∀x∈t.selects,∀a∈x.alts,Pl a.at_
 plE:∀x∈t.selects,Pl x.else_
 plK:∀x∈t.tasks,Pl x.at_
 plC:∀x∈t.checks,Pl x.at_
theorem wa{t:al}{x:ao}(hf:fj t x=true)(hl:t.insns.length≤65536)(hj:jmp x=true):Pl x.to:=by
 unfold fj at hf
 rw[Bool.and_eq_true] at hf
 obtain⟨hm,hf⟩:=hf
 unfold jmp at hj
 simp only[Bool.or_eq_true,Bool.and_eq_true,decide_eq_true_eq] at hj
 by_cases h32:x.op=32
 ·have:=nv hm h32
  constructor<;>omega
 ·by_cases h52:x.op=52
  ·have h0:=tp hm h52
   rw[h52] at hf
   simp at hf
   constructor<;>omega
  ·have h3:x.op=29∨x.op=30∨x.op=31:=oM
   rcases h3 with h3|h3|h3
   all_goals
    rw[h3] at hf
    simp at hf
    exact kU hf hl
theorem Bdt.of{t:al}(hs:Sz t)(h:MayB t=true):Bdt t:=by
 have hv:=MayB.vt hs h
 unfold MayB at h
 simp only[Bool.and_eq_true,Bool.not_eq_true',Bool.or_eq_false_iff,decide_eq_false_iff_not,List.all_eq_true] at h
 obtain⟨hn,hlast,hobj,htask,hlist,hprot,hsel,hhdl,hlp,hck,hfit⟩:=h
 have hl:t.insns.length≤65536:=oM
 have htask':=htask
 unfold dG at htask
 unfold gS at hlist
 unfold gL at hprot
 unfold kh at hsel
 unfold jo at hhdl
 unfold oJ at hlp
 simp only[Bool.and_eq_true,Bool.not_eq_true',Bool.or_eq_false_iff,decide_eq_false_iff_not,decide_eq_true_eq,List.all_eq_true] at htask hlist hprot hsel hhdl hlp
 have hH:=oQ hhdl.2
 have hL:=qQ hlp.2
 have hC:=q9 hck
 refine⟨hv.n,oM,oM,oM,?_,oM,?_,hv.objs,λo ho=>by have:=(hv.o ho).2.2.2;omega,rV hobj,oM,?_,λx hx e he=>by have:=mH htask' hx he;omega,oM,?_,?_,λx hx hj=>wa (hfit x hx) hl hj,?_,?_,?_,?_,?_,?_,?_⟩
 ·intro x hx
  have:=hsel.2 x hx
  unfold gz at this
  simp only[Bool.and_eq_true,Bool.not_eq_true',Bool.or_eq_false_iff,decide_eq_false_iff_not] at this
  omega
 ·intro l hl
  have:=hlist.2 l hl
  unfold jl at this
  simp only[Bool.and_eq_true,Bool.not_eq_true',decide_eq_false_iff_not] at this
  omega
 ·intro x hx
  have:=htask.2 x hx
  unfold dH at this
  simp only[Bool.and_eq_true,Bool.not_eq_true',Bool.or_eq_false_iff,decide_eq_false_iff_not] at this
  omega
 ·intro p hp
  have:=hprot.1 p hp
  unfold ge at this
  simp only[Bool.and_eq_true,Bool.not_eq_true',Bool.or_eq_false_iff,decide_eq_false_iff_not,List.all_eq_true] at this
  exact⟨oM,this.2⟩
 ·have:=q' t.checks (-1) hck oM oM
  omega
 ·intro x hx
  have:=hH x hx
  unfold eG at this
  simp only[Bool.or_eq_false_iff,Bool.not_eq_false',decide_eq_false_iff_not] at this
  have h2:=kU this.1.2 hl
  exact⟨⟨oM,oM⟩,⟨oM,oM⟩,h2⟩
 ·intro x hx
  have:=hH x hx
  unfold eG at this
  simp only[Bool.or_eq_false_iff,Bool.not_eq_false',decide_eq_false_iff_not] at this
  omega
 ·intro x hx
  have:=hL x hx
  unfold qc at this
  simp only[Bool.and_eq_true,Bool.or_eq_false_iff,Bool.not_eq_true',Bool.not_eq_false',decide_eq_false_iff_not] at this
  have h2:=eP.1 this.1.1.2
  exact⟨⟨oM,oM⟩,⟨oM,oM⟩⟩
 ·intro x hx a ha
  have:=hsel.2 x hx
  unfold gz at this
  simp only[Bool.and_eq_true,List.all_eq_true] at this
  have:=this.2 a ha
  unfold fT at this
  simp only[Bool.and_eq_true] at this
  exact kU this.1.1 hl
 ·intro x hx
  have:=hsel.2 x hx
  unfold gz at this
  simp only[Bool.and_eq_true,Bool.not_eq_true',Bool.or_eq_false_iff,Bool.and_eq_false_iff,Bool.not_eq_false',decide_eq_true_eq] at this
  rcases this.1.2 with h1|h1
  ·constructor<;>omega
  ·exact kU h1 hl
 ·intro x hx
  have:=htask.2 x hx
  unfold dH at this
  simp only[Bool.and_eq_true,Bool.not_eq_true',Bool.or_eq_false_iff,Bool.not_eq_false'] at this
  exact kU this.1.1.1.1.2 hl
 ·intro x hx
  have:=tT (hC x hx)
  constructor<;>omega
theorem ltT{i n:Nat}(h:i<n):decide ((i:Int)<(n:Int))=true:=dcT oM
theorem wN{i:Nat}(hl:i<9223372036854775807):IntKind.i64.wrap ((i:Int)+1)=((i+1:Nat):Int):=by rw[w64 oM oM];push_cast;rfl
def Sat{α:Type}(o:Option α)(Q:α→Prop):Prop:=∃r,o=some r∧Q r
theorem Sat.pure{α:Type}{a:α}{Q:α→Prop}(h:Q a):Sat (some a) Q:=⟨a,rfl,h⟩
theorem Sat.bind{α β:Type}{o:Option α}{f:α→Option β}{P:α→Prop}{Q:β→Prop}(h:Sat o P)(hf:∀x,P x→Sat (f x) Q):Sat (o.bind f) Q:=by
 obtain⟨r,h1,h2⟩:=h
 rw[h1]
 exact hf r h2
theorem Sat.cond{α:Type}{c:Bool}{a b:Option α}{Q:α→Prop}(h1:c=true→Sat a Q)(h2:c=false→Sat b Q):Sat (bif c then a else b) Q:=by
 cases c
 ·exact h2 rfl
 ·exact h1 rfl
theorem Sat.guard{α:Type}{c:Bool}{a:Option α}{Q:α→Prop}(h1:c=true)(h2:Sat a Q):Sat (aL c a) Q:=by rw[bx _ h1];exact h2
theorem Sat.letk{α κ:Type}{k:κ}{f:κ→Option α}{Q:α→Prop}(P:κ→Prop)(hk:P k)(hf:∀k',P k'→Sat (f k') Q):Sat (letk k f) Q:=hf k hk
theorem Sat.idx{α:Type}{L:List α}{i:Int}(h:0≤i∧i<L.length):Sat (idx L i) (λx=>idx L i=some x):=by
 obtain⟨x,hx,_⟩:=aE h
 exact⟨x,hx,hx⟩
def I6(v:aa):Prop:= -9223372036854775808≤v.lo∧v.hi≤9223372036854775807
def Ne(v:aa):Prop:=v.lo≤v.hi∧I6 v
theorem wI(x:Int): -9223372036854775808≤IntKind.i64.wrap x∧IntKind.i64.wrap x≤9223372036854775807:=by rw[IntKind.wrap_i64];omega
def Li(v p:aa):Prop:=v.hi<v.lo∨(p.lo≤v.lo∧v.hi≤p.hi)
theorem f65_iff{v p:aa}:f65 v p=true↔Li v p:=by
 unfold f65 f103 Li
 simp only[Bool.or_eq_true,Bool.and_eq_true,decide_eq_true_eq]
theorem f103_iff{v:aa}:f103 v=true↔v.hi<v.lo:=by unfold f103;rw[decide_eq_true_eq]
theorem f118_iff{v:aa}:f118 v=true↔v.hi<v.lo:=by unfold f118;rw[decide_eq_true_eq]
theorem f118_ne{v:aa}(hi:I6 v)(h:f118 v=false):Ne v:=by
 refine⟨?_,hi⟩
 have:¬f118 v=true:=by rw[h];simp
 rw[f118_iff] at this
 omega
def mn(a b:Int):Int:=if b<a then b else a
def mx(a b:Int):Int:=if b>a then b else a
theorem f115_l1_eq(L:List Int)(k:Int→Int→Option aa)(hl:L.length<9223372036854775807):∀(n i:Nat)(a b:Int),i≤L.length→L.length<n+i→f115_l1 L k n (i:Int) a b=k ((L.drop i).foldl mn a) ((L.drop i).foldl mx b)
 |0,i,_,_,_,h=>oM
 |n+1,i,a,b,hi,h=>by
  rw[f115_l1]
  by_cases hh:i<L.length
  ·rw[ltT hh,cdT,aA hh,bnS,wN oM,f115_l1_eq L k hl n (i+1) _ _ oM oM,aK hh]
   rfl
  ·rw[dcF oM,cdF,List.drop_eq_nil_of_le oM]
   rfl
theorem f115_eq(a:Int)(L:List Int)(hl:L.length<9223372036854775807):f115 a L=some ⟨L.foldl mn a,L.foldl mx a⟩:=by
 unfold f115
 rw[ap]
 have:=f115_l1_eq L (λa b=>some (aa.mk a b)) hl (Int.toNat ((L.length:Int) - 0)+1) 0 a a oM sM
 rw[List.drop_zero] at this
 exact this
def J(a b:aa):aa:=if a.hi<a.lo then(if b.hi<b.lo then⟨1,0⟩ else b) else if b.hi<b.lo then a else⟨mn (mn (mn a.lo a.hi) b.lo) b.hi,mx (mx (mx a.lo a.hi) b.lo) b.hi⟩
theorem f87_eq(a b:aa):f87 a b=some (J a b):=by
 unfold f87 J
 by_cases ha:a.hi<a.lo
 ·have e:=f103_iff.2 ha
  rw[e,if_pos ha]
  by_cases hb:b.hi<b.lo
  ·rw[f103_iff.2 hb,if_pos hb];rfl
  ·have e2:f103 b=false:=by rw[←Bool.not_eq_true,f103_iff];exact hb
   rw[e2,if_neg hb];rfl
 ·have e:f103 a=false:=by rw[←Bool.not_eq_true,f103_iff];exact ha
  rw[e,if_neg ha]
  by_cases hb:b.hi<b.lo
  ·rw[f103_iff.2 hb,if_pos hb];rfl
  ·have e2:f103 b=false:=by rw[←Bool.not_eq_true,f103_iff];exact hb
   rw[e2,if_neg hb,f115_eq _ _ sM]
   rfl
theorem ff(a b:aa)(ha:Ne a)(hb:Ne b):Ne (J a b)∧(J a b).lo≤a.lo∧(J a b).lo≤b.lo∧a.hi≤(J a b).hi∧b.hi≤(J a b).hi∧((J a b).lo=a.lo∨(J a b).lo=b.lo)∧((J a b).hi=a.hi∨(J a b).hi=b.hi):=by
 unfold Ne I6 at*
 unfold J
 rw[if_neg oM,if_neg oM]
 unfold mn mx
 dsimp only
 refine⟨⟨?_,?_,?_⟩,?_,?_,?_,?_,?_,?_⟩<;>(repeat' split)<;>omega
theorem t6:∀(L:List aa)(a:aa),Ne a→(∀v∈L,Ne v)→Ne (L.foldl J a)
 |[],a,h,_=>h
 |v::L,a,h,hv=>t6 L _ (ff a v h (hv v List.mem_cons_self)).1 λx hx=>hv x (List.mem_cons_of_mem _ hx)
theorem f57_eq(a:aa)(L:List aa)(hl:L.length<9223372036854775807):f57 a L=some (L.foldl J a):=by
 unfold f57
 rw[ap]
 have key:∀(n i:Nat)(x y:Int),i≤L.length→L.length<n+i→f57_l1 L (λc d=>some (aa.mk c d)) n (i:Int) x y=some ((L.drop i).foldl J ⟨x,y⟩):=by
  intro n
  induction n with
  |zero=>intro i x y _ h;omega
  |succ n ih=>
   intro i x y hi h
   rw[f57_l1]
   by_cases hh:i<L.length
   ·rw[ltT hh,cdT,aA hh,bnS,f87_eq,bnS,wN oM,ih (i+1) _ _ oM oM,aK hh]
    rfl
   ·rw[dcF oM,cdF,List.drop_eq_nil_of_le oM]
    rfl
 have:=key (Int.toNat ((L.length:Int) - 0)+1) 0 a.lo a.hi oM sM
 rw[List.drop_zero] at this
 exact this
theorem f57_1(a b:aa):f57 a [b]=some (J a b):=f57_eq a [b] sM
def W(a b m:aa):aa:=⟨if a.lo≤b.lo then a.lo else if m.lo≤b.lo then m.lo else -9223372036854775808,if a.hi≥b.hi then a.hi else if m.hi≥b.hi then m.hi else 9223372036854775807⟩
theorem f100_eq(a b m:aa)(ha:Ne a)(hb:Ne b):f100 a b m=some (W a b m):=by
 unfold Ne at*
 have e1:f103 a=false:=by rw[←Bool.not_eq_true,f103_iff];omega
 have e2:f103 b=false:=by rw[←Bool.not_eq_true,f103_iff];omega
 unfold f100 W
 rw[e1,e2]
 simp only[ap,Bool.or_self,cdF]
 by_cases h1:a.lo≤b.lo
 ·rw[dcT h1,cdT,if_pos h1]
  by_cases h2:a.hi≥b.hi
  ·rw[dcT h2,cdT,if_pos h2]
  ·rw[dcF h2,cdF,if_neg h2]
   by_cases h3:m.hi≥b.hi
   ·rw[dcT h3,cdT,if_pos h3]
   ·rw[dcF h3,cdF,if_neg h3];rfl
 ·rw[dcF h1,cdF,if_neg h1]
  by_cases h4:m.lo≤b.lo
  ·rw[dcT h4,cdT,if_pos h4]
   by_cases h2:a.hi≥b.hi
   ·rw[dcT h2,cdT,if_pos h2]
   ·rw[dcF h2,cdF,if_neg h2]
    by_cases h3:m.hi≥b.hi
    ·rw[dcT h3,cdT,if_pos h3]
    ·rw[dcF h3,cdF,if_neg h3];rfl
  ·rw[dcF h4,cdF,if_neg h4]
   by_cases h2:a.hi≥b.hi
   ·rw[dcT h2,cdT,if_pos h2];rfl
   ·rw[dcF h2,cdF,if_neg h2]
    by_cases h3:m.hi≥b.hi
    ·rw[dcT h3,cdT,if_pos h3];rfl
    ·rw[dcF h3,cdF,if_neg h3];rfl
theorem f117_spec(a b:aa):((f117 a b).lo≤(f117 a b).hi∧b.lo≤(f117 a b).lo∧(f117 a b).hi≤b.hi∧a.lo≤(f117 a b).lo∧(f117 a b).hi≤a.hi)∨f117 a b=⟨1,0⟩:=by
 unfold f117 f114
 by_cases h:f103 (aa.mk (if b.lo>a.lo then b.lo else a.lo) (if b.hi<a.hi then b.hi else a.hi))=true
 ·rw[h];exact .inr rfl
 ·have h0:f103 (aa.mk (if b.lo>a.lo then b.lo else a.lo) (if b.hi<a.hi then b.hi else a.hi))=false:=by simpa using h
  rw[h0]
  rw[f103_iff] at h
  dsimp only at h
  refine .inl ?_
  simp only[Bool.not_false,cdT]
  refine⟨oM,?_,?_,?_,?_⟩<;>split<;>omega
theorem f117_ne{a b:aa}(ha:Ne a)(h:f118 (f117 a b)=false):Ne (f117 a b)∧b.lo≤(f117 a b).lo∧(f117 a b).hi≤b.hi:=by
 unfold Ne I6 at*
 rcases f117_spec a b with⟨h1,h2,h3,h4,h5⟩|h1
 ·exact⟨⟨h1,oM,oM⟩,h2,h3⟩
 ·rw[h1] at h;cases h
theorem f117_i6{a b:aa}(ha:Ne a):I6 (f117 a b):=by
 unfold Ne I6 at*
 rcases f117_spec a b with⟨h1,h2,h3,h4,h5⟩|h1
 ·omega
 ·rw[h1];dsimp only;omega
theorem f121_i6{a:aa}(ha:Ne a):I6 (f121 a):=by
 unfold Ne I6 at*
 have w1:=wI (a.lo+1)
 have w2:=wI (a.hi - 1)
 unfold f121
 simp only[ap]
 cases decide (a.lo=0)<;>cases decide (a.hi=0)<;>simp only[cdT,cdF]<;>omega
theorem i6_1{a:Int}(h: -9223372036854775808≤a∧a≤9223372036854775807):I6 (f24 a):=h
theorem uI{a b:Int}(h: -9223372036854775808≤a)(h2:b≤9223372036854775807):I6 (f56 a b):=⟨h,h2⟩
abbrev I64(a:Int):Prop:= -9223372036854775808≤a∧a≤9223372036854775807
def OkF(f:Int→Int→Option (Int×Bool))(m:List Int):Prop:=∀x,∀y∈m,Sat (f x y) (λr=>I64 r.1)
theorem J_i6{a b:aa}(ha:I6 a)(hb:I6 b):I6 (J a b):=by
 unfold J
 by_cases h1:a.hi<a.lo
 ·rw[if_pos h1]
  by_cases h2:b.hi<b.lo
  ·rw[if_pos h2];unfold I6;dsimp only;omega
  ·rw[if_neg h2];exact hb
 ·rw[if_neg h1]
  by_cases h2:b.hi<b.lo
  ·rw[if_pos h2];exact ha
  ·rw[if_neg h2]
   unfold I6 at*
   unfold mn mx
   dsimp only
   constructor<;>(repeat' split)<;>omega
theorem f132_l2_ok(f:Int→Int→Option (Int×Bool))(m:List Int)(k:Int→Int→Option aa)(x:Int)(hl:m.length<9223372036854775807)(hf:OkF f m)(hk:∀a b,I6 ⟨a,b⟩→Sat (k a b) I6):∀(n i:Nat)(a b:Int),I6 ⟨a,b⟩→i≤m.length→m.length<n+i→Sat (f132_l2 f m k x n (i:Int) a b) I6
 |0,i,_,_,_,_,h=>oM
 |n+1,i,a,b,hab,hi,h=>by
  rw[f132_l2]
  by_cases hh:i<m.length
  ·rw[ltT hh,cdT,aA hh,bnS]
   refine Sat.bind (hf x m[i] (List.getElem_mem hh)) λr hr=>Sat.cond (λ_=>Sat.pure ⟨Int.le_refl _,Int.le_refl _⟩) λ_=>?_
   rw[f115_eq _ _ sM,bnS,f87_eq,bnS,wN oM]
   exact f132_l2_ok f m k x hl hf hk n (i+1) _ _ (J_i6 hab (show I6 ⟨r.1,r.1⟩ from hr)) oM oM
  ·rw[dcF oM,cdF]
   exact hk _ _ hab
theorem f132_ok(f:Int→Int→Option (Int×Bool))(l m:List Int)(hl:l.length<9223372036854775807)(hm:m.length<9223372036854775807)(hf:OkF f m):Sat (f132 f l m) I6:=by
 unfold f132
 rw[ap]
 have key:∀(n i:Nat)(a b:Int),I6 ⟨a,b⟩→i≤l.length→l.length<n+i→Sat (f132_l1 f l m (λc d=>some (aa.mk c d)) n (i:Int) a b) I6:=by
  intro n
  induction n with
  |zero=>intro i a b _ _ h;omega
  |succ n ih=>
   intro i a b hab hi h
   rw[f132_l1]
   by_cases hh:i<l.length
   ·rw[ltT hh,cdT,ap,aA hh,bnS]
    exact f132_l2_ok f m _ _ hm hf (λa b hab=>by rw[wN oM];exact ih (i+1) a b hab oM oM) _ 0 a b hab oM sM
   ·rw[dcF oM,cdF]
    exact Sat.pure hab
 exact key _ 0 _ _ (by unfold I6 f114;dsimp only;omega) oM sM
theorem gN(g:Int→Int→Int×Bool)(m:List Int)(hg:∀x y,I64 (g x y).1):OkF (λx y=>some (g x y)) m:=λx y _=>Sat.pure (hg x y)
theorem f133_i(x y:Int):I64 (f133 x y).1:=wI _
theorem f134_i(x y:Int):I64 (f134 x y).1:=wI _
theorem f135_i(x y:Int):I64 (f135 x y).1:=by
 unfold f135
 cases (!((decide (x<0))==(decide (y<0))))<;>exact wI _
theorem f137_ok(b:aa):∃l,f137 b=some l∧l.length≤4∧∀y∈l,y≠0:=by
 unfold f137
 rw[ap]
 have key:∀(n i:Nat)(l:List Int),i≤4→4<n+i→l.length≤i→(∀y∈l,y≠0)→∃l',f137_l1 b (λl=>some l) n (i:Int) l=some l'∧l'.length≤4∧∀y∈l',y≠0:=by
  intro n
  induction n with
  |zero=>intro i l _ h;omega
  |succ n ih=>
   intro i l hi h hl hy
   rw[f137_l1]
   by_cases hh:i<4
   ·rw[show((List.length [b.lo,(-1),1,b.hi]:Nat):Int)=((4:Nat):Int) from rfl,ltT hh,cdT,ap,aA (L:=[b.lo,(-1),1,b.hi]) (show i< [b.lo,(-1),1,b.hi].length from hh),bnS,wN oM]
    generalize[b.lo,(-1),1,b.hi][i]'(show i< [b.lo,(-1),1,b.hi].length from hh)=x
    cases hc:(!decide (x=0))&&f66 b x with
    |false=>rw[cdF];exact ih (i+1) l oM oM oM hy
    |true=>
     rw[cdT,bx _ (kG oM (by simp;omega))]
     refine ih (i+1) _ oM oM (by simp;omega) λy hy2=>?_
     rcases List.mem_append.1 hy2 with h2|h2
     ·exact hy y h2
     ·simp only[List.mem_singleton] at h2
      subst h2
      simp only[Bool.and_eq_true,Bool.not_eq_true',decide_eq_false_iff_not] at hc
      exact hc.1
   ·rw[show((List.length [b.lo,(-1),1,b.hi]:Nat):Int)=((4:Nat):Int) from rfl,dcF oM,cdF]
    exact⟨l,rfl,oM,hy⟩
 exact key 5 0 [] oM oM sM sM
theorem f151_ok(l:List Bool)(hl:l.length<9223372036854775807):∃r,f151 l=some r:=by
 unfold f151
 rw[ap]
 have key:∀(n i:Nat),i≤l.length→l.length<n+i→∃r,f151_l1 l (λ_=>some false) n (i:Int)=some r:=by
  intro n
  induction n with
  |zero=>intro i _ h;omega
  |succ n ih=>
   intro i hi h
   rw[f151_l1]
   by_cases hh:i<l.length
   ·rw[ltT hh,cdT,aA hh,bnS]
    cases l[i] with
    |true=>exact⟨_,rfl⟩
    |false=>rw[cdF,wN oM];exact ih (i+1) oM oM
   ·rw[dcF oM,cdF]
    exact⟨_,rfl⟩
 exact key _ 0 oM sM
theorem f152_i(c:Bool):0≤f152 c∧f152 c≤1:=by cases c<;>simp[f152]
theorem f140_ok(op:Int)(a b:aa):Sat (f140 op a b) I6:=by
 unfold f140
 simp only[ap]
 have fin:∀c d:Bool,Sat (some (aa.mk (f152 c) (f152 d))) I6:=λc d=>Sat.pure (by have:=f152_i c;have:=f152_i d;unfold I6;dsimp only;omega)
 have f1:∀l:List Bool,l.length=2→Sat (f151 l) (λ_=>True):=λl hl=>by obtain⟨r,h⟩:=f151_ok l oM;exact⟨r,h,trivial⟩
 refine Sat.cond (λ_=>Sat.bind (f1 _ rfl) λ_ _=>fin _ _) λ_=>Sat.cond (λ_=>Sat.bind (f1 _ rfl) λ_ _=>fin _ _) λ_=>Sat.cond (λ_=>Sat.bind (f1 _ rfl) λ_ _=>fin _ _) λ_=>Sat.cond (λ_=>Sat.bind (f1 _ rfl) λ_ _=>fin _ _) λ_=>Sat.cond (λ_=>Sat.bind (f1 _ rfl) λ_ _=>fin _ _) λ_=>Sat.bind (f1 _ rfl) λ_ _=>fin _ _
theorem nz_t{b:Int}(h:decide (b=0)=false):nz b=true:=by unfold nz;rw[h];rfl
theorem f154_ok(op a b:Int)(ho:op=13∨op=14∨op=15):Sat (f154 op a b) (λr=>I64 r.1):=by
 unfold f154
 simp only[ap]
 rcases ho with rfl|rfl|rfl
 ·exact Sat.pure (wI _)
 ·exact Sat.pure (wI _)
 ·exact Sat.pure (wI _)
theorem f141_ok(op:Int)(a b:aa)(ho:op=13∨op=14∨op=15):Sat (f141 op a b) I6:=by
 unfold f141
 refine Sat.cond (λ_=>Sat.pure ⟨Int.le_refl _,Int.le_refl _⟩) λ_=>Sat.bind (f132_ok _ _ _ sM sM λx y _=>?_) λr hr=>Sat.pure hr
 unfold f153
 exact Sat.bind (f154_ok _ _ _ ho) λr hr=>Sat.pure hr
theorem qU(a b:Int)(L:List Int)(ha:I64 a)(hb:I64 b)(hL:∀x∈L,I64 x):I6 ⟨L.foldl mn a,L.foldl mx b⟩:=by
 induction L generalizing a b with
 |nil=>exact⟨ha.1,hb.2⟩
 |cons x L ih=>
  have hx:=hL x List.mem_cons_self
  refine ih (mn a x) (mx b x) ?_ ?_ λy hy=>hL y (List.mem_cons_of_mem _ hy)
  ·unfold mn I64 at*;split<;>omega
  ·unfold mx I64 at*;split<;>omega
theorem f142_ok(a:aa)(ha:Ne a):Sat (f142 a) I6:=by
 unfold Ne I6 at ha
 have w1:=wI (0 - a.lo)
 have w2:=wI (0 - a.hi)
 unfold f142
 refine Sat.cond (λ_=>Sat.pure ⟨Int.le_refl _,Int.le_refl _⟩) λ_=>Sat.cond (λ_=>?_) λ_=>?_
 ·rw[f115_eq _ _ sM]
  refine Sat.pure (qU _ _ _ (by unfold I64;omega) (by unfold I64;omega) λx hx=>?_)
  simp only[List.mem_cons,List.not_mem_nil,or_false] at hx
  rcases hx with rfl|rfl
  ·exact w1
  ·unfold I64;omega
 ·rw[f115_eq _ _ sM]
  refine Sat.pure (qU _ _ _ (by unfold I64;split<;>omega) (by unfold I64;split<;>omega) λx hx=>?_)
  simp only[List.mem_cons,List.not_mem_nil,or_false] at hx
  subst hx
  unfold I64;split<;>omega
theorem f138_i(a b:aa)(ha:Ne a):I6 (f138 a b):=by
 unfold Ne I6 at*
 unfold f138
 generalize IntKind.i64.wrap (IntKind.u64.wrap ((if(f150 b.hi)>(f150 b.lo) then(f150 b.hi) else(f150 b.lo)) - 1))=m
 generalize IntKind.i64.wrap (0 - m)=n
 dsimp only
 constructor
 ·split
  ·split<;>omega
  ·omega
 ·split
  ·split<;>omega
  ·omega
theorem f139_i(a b:aa)(ha:Ne a):I6 (f139 a b):=by
 unfold Ne I6 at*
 have w1:=wI (b.lo+1)
 have w2:=wI (b.hi - 1)
 unfold f139
 simp only[ap]
 have k:∀h:Int,h≤9223372036854775807→-9223372036854775808≤((bif (decide (b.lo<0)) then(bif ((decide (a.hi≤0))&&(decide (b.hi<0))) then(aa.mk (if a.lo>(IntKind.i64.wrap (b.lo+1)) then a.lo else(IntKind.i64.wrap (b.lo+1))) h) else(aa.mk (IntKind.i64.wrap (b.lo+1)) h)) else(aa.mk 0 h)):aa).lo∧((bif (decide (b.lo<0)) then(bif ((decide (a.hi≤0))&&(decide (b.hi<0))) then(aa.mk (if a.lo>(IntKind.i64.wrap (b.lo+1)) then a.lo else(IntKind.i64.wrap (b.lo+1))) h) else(aa.mk (IntKind.i64.wrap (b.lo+1)) h)) else(aa.mk 0 h)):aa).hi≤9223372036854775807:=λh hh=>by
  cases decide (b.lo<0)
  ·exact⟨show(-9223372036854775808:Int)≤0 by omega,hh⟩
  ·cases ((decide (a.hi≤0))&&(decide (b.hi<0)))
   ·exact⟨w1.1,hh⟩
   ·refine⟨?_,hh⟩
    simp only[cdT]
    split<;>omega
 cases decide (b.hi>0)
 ·exact k 0 dC
 ·cases ((decide (a.lo≥0))&&(decide (b.lo>0)))
  ·exact k _ w2.2
  ·exact k _ (by split<;>omega)
theorem f120_ok(op:Int)(a b:aa)(ha:Ne a)(hb:Ne b):Sat (f120 op a b) I6:=by
 unfold f120
 have two:∀x y:Int,[x,y].length<9223372036854775807:=λ_ _=>sM
 have n1:Sat (some f114) I6:=Sat.pure (by unfold I6 f114;dsimp only;omega)
 refine Sat.cond (λ_=>n1) λ_=>Sat.cond (λ_=>Sat.bind (f132_ok _ _ _ (two _ _) (two _ _) (gN _ _ f133_i)) λ_ h=>Sat.pure h) λ_=>Sat.cond (λ_=>Sat.bind (f132_ok _ _ _ (two _ _) (two _ _) (gN _ _ f134_i)) λ_ h=>Sat.pure h) λ_=>Sat.cond (λ_=>Sat.bind (f132_ok _ _ _ (two _ _) (two _ _) (gN _ _ f135_i)) λ_ h=>Sat.pure h) λ_=>Sat.cond (λ_=>?_) λ_=>?_
 ·obtain⟨l,h1,h2,h3⟩:=f137_ok b
  rw[h1,bnS]
  refine Sat.bind (f132_ok _ _ _ (two _ _) oM λx y hy=>?_) λ_ h=>Sat.pure h
  unfold f136
  exact Sat.guard (nz_t (dcF (h3 y hy))) (Sat.pure (wI _))
 ·refine Sat.letk (λk:Bool→Option aa=>∀c,Sat (k c) I6) (λc=>Sat.cond (λ_=>Sat.cond (λ_=>n1) λ_=>Sat.cond (λ_=>Sat.pure (f138_i a b ha)) λ_=>Sat.pure (f139_i a b ha)) λ_=>?_) λk hk=>Sat.cond (λ_=>hk _) λ_=>hk _
  refine Sat.letk (λk:Bool→Option aa=>∀c,Sat (k c) I6) (λc=>Sat.cond (λ_=>Sat.bind (f140_ok _ _ _) λ_ h=>Sat.pure h) λ_=>?_) λk hk=>Sat.cond (λ_=>hk _) λ_=>Sat.cond (λ_=>hk _) λ_=>Sat.cond (λ_=>hk _) λ_=>Sat.cond (λ_=>hk _) λ_=>Sat.cond (λ_=>hk _) λ_=>hk _
  refine Sat.letk (λk:Bool→Option aa=>∀c,(c=true→op=13∨op=14∨op=15)→Sat (k c) I6) (λc hc=>?_) λk hk=>Sat.cond (λh=>hk _ λ_=> .inl (by simpa using h)) λ_=>Sat.cond (λh=>hk _ λ_=> .inr (.inl (by simpa using h))) λ_=>hk _ λh=> .inr (.inr (by simpa using h))
  refine Sat.cond (λhct=>Sat.bind (f141_ok _ _ _ (hc hct)) λ_ h=>Sat.pure h) λ_=>Sat.cond (λ_=>Sat.bind (f132_ok _ _ _ sM (two _ _) (gN _ _ f134_i)) λ_ h=>Sat.pure h) λ_=>Sat.cond (λ_=>Sat.bind (f132_ok _ _ _ sM (two _ _) (gN _ _ f134_i)) λ_ h=>Sat.pure h) λ_=>Sat.cond (λ_=>Sat.bind (f142_ok _ ha) λ_ h=>Sat.pure h) λ_=>n1
theorem fl_d:∀(L:List (Int×Int))(d a b n m to:Int),fl L d a b n m to=true→d=0∨∃w,(68,w)∈L∧rng w d=true
 |[],d,a,b,n,m,to,h=>by
  simp only[fl,Bool.and_eq_true,decide_eq_true_eq] at h
  exact .inl oM
 |(c,w)::r,d,a,b,n,m,to,h=>by
  have up:(d=0∨∃w,(68,w)∈r∧rng w d=true)→d=0∨∃w',(68,w')∈(c,w)::r∧rng w' d=true:=λhh=>by
   rcases hh with h|⟨w',h1,h2⟩
   ·exact .inl h
   ·exact .inr ⟨w',List.mem_cons_of_mem _ h1,h2⟩
  rw[fl] at h
  by_cases hq:c=68
  ·subst hq
   refine .inr ⟨w,List.mem_cons_self,?_⟩
   have h':(rng w d&&fl r 0 a b n m to)=true:=h
   rw[Bool.and_eq_true] at h'
   exact h'.1
  ·have e:decide (c=68)=false:=dcF hq
   rw[e] at h
   revert h
   cases decide (c=68)<;>cases decide (c=65)<;>cases decide (c=66)<;>cases decide (c=78)<;>cases decide (c=77)<;>intro h<;>simp only[cdT,cdF,Bool.and_eq_true] at h<;>exact up (fl_d _ _ _ _ _ _ _ h.2)
theorem fl_a:∀(L:List (Int×Int))(d a b n m to:Int),fl L d a b n m to=true→a=0∨∃w,(65,w)∈L∧rng w a=true
 |[],d,a,b,n,m,to,h=>by
  simp only[fl,Bool.and_eq_true,decide_eq_true_eq] at h
  exact .inl oM
 |(c,w)::r,d,a,b,n,m,to,h=>by
  have up:(a=0∨∃w,(65,w)∈r∧rng w a=true)→a=0∨∃w',(65,w')∈(c,w)::r∧rng w' a=true:=λhh=>by
   rcases hh with h|⟨w',h1,h2⟩
   ·exact .inl h
   ·exact .inr ⟨w',List.mem_cons_of_mem _ h1,h2⟩
  rw[fl] at h
  by_cases hq:c=65
  ·subst hq
   refine .inr ⟨w,List.mem_cons_self,?_⟩
   have h':(rng w a&&fl r d 0 b n m to)=true:=h
   rw[Bool.and_eq_true] at h'
   exact h'.1
  ·have e:decide (c=65)=false:=dcF hq
   rw[e] at h
   revert h
   cases decide (c=68)<;>cases decide (c=65)<;>cases decide (c=66)<;>cases decide (c=78)<;>cases decide (c=77)<;>intro h<;>simp only[cdT,cdF,Bool.and_eq_true] at h<;>exact up (fl_a _ _ _ _ _ _ _ h.2)
theorem wo:∀(L:List (Int×Int))(d a b n m to:Int),fl L d a b n m to=true→b=0∨∃w,(66,w)∈L∧rng w b=true
 |[],d,a,b,n,m,to,h=>by
  simp only[fl,Bool.and_eq_true,decide_eq_true_eq] at h
  exact .inl oM
 |(c,w)::r,d,a,b,n,m,to,h=>by
  have up:(b=0∨∃w,(66,w)∈r∧rng w b=true)→b=0∨∃w',(66,w')∈(c,w)::r∧rng w' b=true:=λhh=>by
   rcases hh with h|⟨w',h1,h2⟩
   ·exact .inl h
   ·exact .inr ⟨w',List.mem_cons_of_mem _ h1,h2⟩
  rw[fl] at h
  by_cases hq:c=66
  ·subst hq
   refine .inr ⟨w,List.mem_cons_self,?_⟩
   have h':(rng w b&&fl r d a 0 n m to)=true:=h
   rw[Bool.and_eq_true] at h'
   exact h'.1
  ·have e:decide (c=66)=false:=dcF hq
   rw[e] at h
   revert h
   cases decide (c=68)<;>cases decide (c=65)<;>cases decide (c=66)<;>cases decide (c=78)<;>cases decide (c=77)<;>intro h<;>simp only[cdT,cdF,Bool.and_eq_true] at h<;>exact up (wo _ _ _ _ _ _ _ h.2)
theorem vR:∀k,k<57→((jp ((k:Nat)+1:Int)).all λp=>(!(decide (p.1=68))||decide (p.2=114))&&((!(decide (p.1=65))||(decide (p.2=114)||(decide (48≤k))))&&(!(decide (p.1=66))||(decide (p.2=114)||(decide (48≤k)||(decide (p.2=108)&&(decide (k=4)||decide (k=5))))))))=true:=by decide+kernel
theorem qD{v:Int}(h:rng 114 v=true):0≤v∧v≤15:=by
 simp only[rng,f130] at h
 simp at h
 omega
theorem rng_l{v:Int}(h:rng 108 v=true):1≤v∧v≤65536:=by
 simp only[rng,f130] at h
 simp at h
 omega
theorem dj{v:Int}(h:0≤v∧v≤15):bE 16 v=true:=by
 obtain⟨n,rfl⟩:=Int.eq_ofNat_of_zero_le h.1
 have:n<16:=oM
 simp[bE,this]
structure Rgi(x:ao):Prop where
 o:1≤x.op∧x.op≤57
 d:0≤x.d∧x.d≤15
 a:x.op≤48→0≤x.a∧x.a≤15
 b:x.op≤48→x.op≠5→x.op≠6→0≤x.b∧x.b≤15
 bl:x.op=5∨x.op=6→0≤x.b∧x.b≤65536
theorem uH{x:ao}(h:fR x=true):Rgi x:=by
 unfold fR at h
 simp only[Bool.and_eq_true,Bool.not_eq_true',Bool.or_eq_false_iff,Bool.not_eq_false',decide_eq_true_eq] at h
 have ho:1≤x.op∧x.op≤57:=h.1.1
 have hf:=h.2.2
 obtain⟨k,hk⟩:∃k:Nat,x.op=(k:Int)+1:=⟨(x.op - 1).toNat,oM⟩
 have ht:=List.all_eq_true.1 (vR k oM)
 rw[hk] at hf
 refine⟨ho,?_,λh48=>?_,λh48 h5 h6=>?_,λh56=>?_⟩
 ·rcases fl_d _ _ _ _ _ _ _ hf with e|⟨w,h1,h2⟩
  ·omega
  ·have:=ht _ h1
   simp at this
   rw[this] at h2
   exact qD h2
 ·rcases fl_a _ _ _ _ _ _ _ hf with e|⟨w,h1,h2⟩
  ·omega
  ·have:=ht _ h1
   simp at this
   have e:w=114:=oM
   rw[e] at h2
   exact qD h2
 ·rcases wo _ _ _ _ _ _ _ hf with e|⟨w,h1,h2⟩
  ·omega
  ·have:=ht _ h1
   simp at this
   have e:w=114:=oM
   rw[e] at h2
   exact qD h2
 ·rcases wo _ _ _ _ _ _ _ hf with e|⟨w,h1,h2⟩
  ·omega
  ·have:=ht _ h1
   simp at this
   have e:w=114∨w=108:=oM
   rcases e with e|e
   ·rw[e] at h2
    have:=qD h2
    omega
   ·rw[e] at h2
    have:=rng_l h2
    omega
structure IOk(t:al)(x:ao):Prop where
 r:Rgi x
 n6:I64 x.n
 ld:x.op=3∨x.op=4→∃o,idx t.objs x.n=some o∧0≤x.m∧x.m<o.size
 ldx:x.op=5∨x.op=6→∃o,idx t.objs x.n=some o∧0≤x.m∧x.m+x.b≤o.size
 jt:x.op=32→0≤x.m∧x.m≤65536
 call:x.op=49→∃tk e o,idx t.tasks x.a=some tk∧idx tk.entries x.b=some e∧idx t.objs x.n=some o∧(e.ins.length:Int)+e.outs.length+1≤o.size
 sel:x.op=50→∃s,idx t.selects x.n=some s
theorem IOk.of{t:al}(hv:VT t)(hb:Bdt t){x:ao}(hf:fj t x=true)(hn:x.op=50→0≤x.n)(h6:I64 x.n):IOk t x:=by
 have hm:fR x=true:=by unfold fj at hf;rw[Bool.and_eq_true] at hf;exact hf.1
 have hr:=uH hm
 refine⟨hr,h6,λho=>?_,λho=>?_,λho=>?_,λho=>?_,λho=>?_⟩
 ·unfold fj at hf
  rw[Bool.and_eq_true] at hf
  have h1:(decide (x.op=3)||decide (x.op=4))=true:=by simpa using ho
  rw[h1,cdT] at hf
  obtain⟨o,e1,e2,e3⟩:=ep hf.2
  have:=hv.o (cg e1)
  rw[w64 oM oM] at e3
  exact⟨o,e1,e2,oM⟩
 ·unfold fj at hf
  rw[Bool.and_eq_true] at hf
  have h1:(decide (x.op=3)||decide (x.op=4))=false:=by simp;omega
  have h2:(decide (x.op=5)||decide (x.op=6))=true:=by simpa using ho
  rw[h1,h2,cdF,cdT] at hf
  obtain⟨o,e1,e2,e3⟩:=ep hf.2
  have:=hv.o (cg e1)
  have:=hr.bl ho
  rw[w64 oM oM] at e3
  exact⟨o,e1,e2,oM⟩
 ·have:=nv hm ho
  omega
 ·unfold fj at hf
  rw[Bool.and_eq_true,ho] at hf
  simp at hf
  obtain⟨_,h1,h2⟩:=hf
  unfold kB at h1 h2
  cases ht:idx t.tasks x.a with
  |none=>rw[ht] at h1;cases h1
  |some tk=>
   rw[ht] at h1 h2
   dsimp only at h1 h2
   cases he:idx tk.entries x.b with
   |none=>rw[he] at h1;cases h1
   |some e=>
    rw[he] at h2
    dsimp only at h2
    obtain⟨o,e1,e2,e3⟩:=ep h2
    have:=hv.o (cg e1)
    have:=hb.forms tk (cg ht) e (cg he)
    rw[w64 (x:=(e.ins.length:Int)+e.outs.length) oM oM,w64 (x:=(e.ins.length:Int)+e.outs.length+1) oM oM,w64 oM oM] at e3
    exact⟨tk,e,o,rfl,he,e1,oM⟩
 ·unfold fj at hf
  rw[Bool.and_eq_true,ho] at hf
  simp at hf
  obtain⟨s,hs,_⟩:=aE (L:=t.selects) (i:=x.n) ⟨hn ho,hf.2⟩
  exact⟨s,hs⟩
theorem wn{d a b n m to:Int}(h:fl (jp 50) d a b n m to=true):0≤n:=by
 have:jp 50=[(78,106)]:=by decide+kernel
 rw[this] at h
 simp only[fl,rng,f130] at h
 simp at h
 omega
theorem wd{x:ao}(h:fR x=true)(ho:x.op=50):0≤x.n:=by
 unfold fR at h
 simp only[Bool.and_eq_true] at h
 have:=h.2.2
 rw[ho] at this
 exact wn this
abbrev Rgs:=Nat→aa
abbrev Wy:=List (Int×Rgs)
abbrev Pl2:=List ((Int×Int)×aa)
def RNe(r:Rgs):Prop:=∀q,q<16→Ne (r q)
theorem RNe.set{r:Rgs}(h:RNe r){v:aa}(hv:Ne v)(i:Nat):RNe (be r i v):=λq hq=>by
 unfold be
 cases Nat.beq q i with
 |true=>exact hv
 |false=>exact h q hq
structure WyOk(n:Nat)(wy:Wy):Prop where
 at_:∀p∈wy,0≤p.1∧p.1<n
 ne:∀p∈wy,RNe p.2
 nd:(wy.map (·.1)).Nodup
structure Sh(os:List Obj)(rg:List aa)(sl:List (List aa)):Prop where
 rl:rg.length=os.length
 rne:∀v∈rg,Ne v
 ol:os.length≤4096
 os1:∀o∈os,1≤o.size∧o.size≤16384
 sl_:sl.length=os.length
 row:∀(i:Nat)(r:List aa)(o:Obj),sl[i]? =some r→os[i]? =some o→(r.length:Int)=o.size
 sne:∀(i:Nat)(r:List aa)(g v:aa),sl[i]? =some r→rg[i]? =some g→v∈r→Ne v∧g.lo≤v.lo∧v.hi≤g.hi
theorem Sh.at{os:List Obj}{rg:List aa}{sl:List (List aa)}(h:Sh os rg sl){i:Int}{o:Obj}(ho:idx os i=some o):∃r g,idx sl i=some r∧idx rg i=some g∧(r.length:Int)=o.size∧Ne g∧∀v∈r,Ne v∧g.lo≤v.lo∧v.hi≤g.hi:=by
 have hi:=cm ho
 obtain⟨r,hr,_⟩:=aE (L:=sl) (i:=i) ⟨hi.1,by rw[h.sl_];exact hi.2⟩
 obtain⟨g,hg,hgm⟩:=aE (L:=rg) (i:=i) ⟨hi.1,by rw[h.rl];exact hi.2⟩
 exact⟨r,g,hr,hg,h.row _ _ _ (aU hr) (aU ho),h.rne g hgm,λv hv=>h.sne _ _ _ _ (aU hr) (aU hg) hv⟩
structure PlOk(rg:List aa)(sl:List (List aa))(pl:Pl2):Prop where
 at_:∀p∈pl,∃r g,idx sl p.1.1=some r∧idx rg p.1.1=some g∧0≤p.1.2∧p.1.2<r.length∧Ne p.2∧g.lo≤p.2.lo∧p.2.hi≤g.hi
 nd:(pl.map (·.1)).Nodup
theorem iU{κ α:Type}[DecidableEq κ](k:κ)(v:α):∀L:List (κ×α),(∀p∈bI L k v,p∈L∨p=(k,v))∧((L.map (·.1)).Nodup→((bI L k v).map (·.1)).Nodup)
 |[]=>by simp[bI]
 |q::L=>by
  obtain⟨h1,h2⟩:=iU k v L
  unfold bI
  by_cases hq:q.1=k
  ·rw[if_pos hq]
   refine⟨λp hp=>?_,λhn=>?_⟩
   ·rcases List.mem_cons.1 hp with rfl|hp
    ·exact .inr rfl
    ·exact .inl (List.mem_cons_of_mem _ hp)
   ·simp only[List.map_cons,List.nodup_cons] at hn⊢
    rw[←hq];exact hn
  ·rw[if_neg hq]
   refine⟨λp hp=>?_,λhn=>?_⟩
   ·rcases List.mem_cons.1 hp with rfl|hp
    ·exact .inl List.mem_cons_self
    ·rcases h1 p hp with h|h
     ·exact .inl (List.mem_cons_of_mem _ h)
     ·exact .inr h
   ·simp only[List.map_cons,List.nodup_cons] at hn⊢
    refine⟨λhm=>?_,h2 hn.2⟩
    obtain⟨p,hp,he⟩:=List.mem_map.1 hm
    rcases h1 p hp with h|h
    ·exact hn.1 (List.mem_map.2 ⟨p,h,he⟩)
    ·rw[h] at he;exact hq he.symm
theorem jO{κ α:Type}[DecidableEq κ]{k:κ}{v:α}:∀{L:List (κ×α)},bH L k=some v→(k,v)∈L
 |[],h=>by simp[bH] at h
 |p::L,h=>by
  unfold bH at h
  by_cases hk:p.1=k
  ·rw[if_pos hk,au] at h
   rw[←hk,←h];exact List.mem_cons_self
  ·rw[if_neg hk] at h
   exact List.mem_cons_of_mem _ (jO h)
theorem WyOk.nil{n:Nat}:WyOk n []:=⟨sM,sM,sM⟩
theorem PlOk.nil{rg sl}:PlOk rg sl []:=⟨sM,sM⟩
theorem jF{i:Nat}(h:i<16):bE 16 (i:Int)=true:=dj oM
section
variable{t:al}{rg:List aa}{fc:List aj}{sl:List (List aa)}{pc:Int}{rr:Rgs}{pl:Pl2}
theorem f90_l1_ok(wy:Wy)(a:Int)(old:Rgs)(he:(Option.getD (bH wy a) (λ_=>(aa.mk 0 0)))=old)(ho:RNe old)(Q:Wy→Prop)(k:Rgs→Option Wy)(hk:∀r,RNe r→Sat (k r) Q):∀(n i:Nat)(r:Rgs),i≤16→16<n+i→RNe r→Sat (f90_l1 wy a k n (i:Int) r) Q
 |0,i,_,_,h,_=>oM
 |n+1,i,r,hi,h,hr=>by
  rw[f90_l1]
  by_cases hh:i<16
  ·rw[dcT oM,cdT,bx _ (jF hh),bx _ (jF hh),he,Int.toNat_natCast,f57_1,bnS,bx _ (jF hh),wN oM]
   exact f90_l1_ok wy a old he ho Q k hk n (i+1) _ oM oM (hr.set (ff _ _ (hr i hh) (ho i hh)).1 i)
  ·rw[dcF oM,cdF]
   exact hk r hr
theorem f90_ok{wy:Wy}(hw:WyOk fc.length wy)(a:Int){r:Rgs}(hr:RNe r):Sat (f90 t rg fc sl pc rr pl wy a r) (WyOk fc.length):=by
 unfold f90
 refine Sat.cond (λ_=>Sat.pure hw) λhc=>?_
 simp only[Bool.or_eq_false_iff,decide_eq_false_iff_not] at hc
 refine Sat.letk (λk:Rgs→Option Wy=>∀r,RNe r→Sat (k r) (WyOk fc.length)) (λr hr=>Sat.pure ?_) λk hk=>?_
 ·obtain⟨h1,h2⟩:=iU a r wy
  refine⟨λp hp=>?_,λp hp=>?_,h2 hw.nd⟩
  ·rcases h1 p hp with h|h
   ·exact hw.at_ p h
   ·subst h;dsimp only;omega
  ·rcases h1 p hp with h|h
   ·exact hw.ne p h
   ·subst h;exact hr
 ·refine Sat.cond (λhs=>?_) λ_=>hk r hr
  obtain⟨o,ho⟩:=Option.isSome_iff_exists.1 hs
  exact f90_l1_ok wy a o (by rw[ho];rfl) (hw.ne _ (jO ho)) _ k hk _ 0 r oM oM hr
theorem f119_ok{wy:Wy}(hp:PlOk rg sl pl){o k:Int}{v:aa}{row:List aa}{g:aa}(h1:idx sl o=some row)(h2:idx rg o=some g)(h3:0≤k∧k<row.length)(hv:Ne v∧g.lo≤v.lo∧v.hi≤g.hi):Sat (f119 t rg fc sl pc rr pl wy o k v) (PlOk rg sl):=by
 unfold f119
 refine Sat.letk (λK:Int→Int→Option Pl2=>∀a b,Ne ⟨a,b⟩→g.lo≤a→b≤g.hi→Sat (K a b) (PlOk rg sl)) (λa b hab ha hb=>Sat.pure ?_) λK hK=>?_
 ·obtain⟨e1,e2⟩:=iU (o,k) (aa.mk a b) pl
  refine⟨λp hq=>?_,e2 hp.nd⟩
  rcases e1 p hq with h|h
  ·exact hp.at_ p h
  ·subst h
   exact⟨row,g,h1,h2,h3.1,h3.2,hab,ha,hb⟩
 ·refine Sat.cond (λhs=>?_) λ_=>hK _ _ hv.1 hv.2.1 hv.2.2
  obtain⟨o',ho⟩:=Option.isSome_iff_exists.1 hs
  rw[ho,Option.getD_some,f57_1,bnS]
  obtain⟨r',g',q1,q2,_,_,q5,q6,q7⟩:=hp.at_ _ (jO ho)
  dsimp only at q1 q2 q5 q6 q7
  rw[h2,au] at q2
  subst q2
  obtain⟨z1,z2,z3,z4,z5,z6,z7⟩:=ff v o' hv.1 q5
  have:=hv.2.1
  have:=hv.2.2
  exact hK _ _ z1 oM oM
theorem qv:RNe (λ_=>(aa.mk 0 0)):=λ_ _=>by unfold Ne I6;dsimp only;omega
theorem f58_ok{wy:Wy}(hw:WyOk fc.length wy)(hl:t.handlers.length≤4096)(c:Bool):Sat (f58 t rg fc sl pc rr pl wy c) (WyOk fc.length):=by
 unfold f58
 refine Sat.letk (λK:Int→Option Wy=>∀i:Int, -1≤i→i<t.handlers.length→Sat (K i) (WyOk fc.length)) (λi h1 h2=>?_) λK hK=>?_
 ·refine Sat.cond (λhc=>?_) λ_=>Sat.pure hw
  rw[decide_eq_true_eq] at hc
  refine Sat.bind (Sat.idx ⟨hc,h2⟩) λx hx=>Sat.bind (f90_ok hw x.at_ qv) λr hr=>Sat.pure hr
 ·refine Sat.letk (λK2:Unit→Option Wy=>Sat (K2 ()) (WyOk fc.length)) (hK _ oM oM) λK2 hK2=>?_
  have key:∀(n i:Nat),i≤t.handlers.length→t.handlers.length<n+i→Sat (f58_l1 t pc c K K2 n (i:Int)) (WyOk fc.length):=by
   intro n
   induction n with
   |zero=>intro i _ h;omega
   |succ n ih=>
    intro i hi h
    rw[f58_l1]
    by_cases hh:i<t.handlers.length
    ·rw[ltT hh,cdT,aA hh,bnS]
     refine Sat.letk (λK3:Unit→Option Wy=>Sat (K3 ()) (WyOk fc.length)) (Sat.cond (λ_=>hK _ oM oM) λ_=>?_) λK3 hK3=>hK3
     rw[wN oM]
     exact ih (i+1) oM oM
    ·rw[dcF oM,cdF]
     exact hK2
  exact key _ 0 oM sM
theorem f116_ok{wy:Wy}(hw:WyOk fc.length wy){d:Int}{v:aa}(hd:0≤d∧d≤15)(hr:RNe rr)(hv:I6 v):Sat (f116 t rg fc sl pc rr pl wy d v) (WyOk fc.length):=by
 unfold f116
 refine Sat.cond (λhc=>?_) λ_=>Sat.pure hw
 rw[Bool.not_eq_true'] at hc
 exact Sat.guard (dj hd) (Sat.bind (f90_ok hw _ (hr.set (f118_ne hv hc) _)) λr h=>Sat.pure h)
theorem f122_ok{wy:Wy}(hw:WyOk fc.length wy){to d:Int}{v:aa}(hd:0≤d∧d≤15)(hr:RNe rr)(hv:I6 v):Sat (f122 t rg fc sl pc rr pl wy to d v) (WyOk fc.length):=by
 unfold f122
 refine Sat.cond (λhc=>?_) λ_=>Sat.pure hw
 rw[Bool.not_eq_true'] at hc
 exact Sat.guard (dj hd) (Sat.bind (f90_ok hw _ (hr.set (f118_ne hv hc) _)) λr h=>Sat.pure h)
theorem rAt{r:Rgs}(hr:RNe r){a:Int}(ha:0≤a∧a≤15):Ne (r a.toNat):=hr _ oM
end
theorem jH{α:Type}{L:List α}{lo hi:Int}(h1:0≤lo)(h2:lo≤hi)(h3:hi≤L.length):dD L lo hi=true:=by
 unfold dD
 rw[dcT h1,dcT h2,dcT h3];rfl
theorem iN{α:Type}{L:List α}{lo hi:Int}(h1:0≤lo)(h2:lo≤hi)(h3:hi≤L.length):((bD L lo hi).length:Int)=hi - lo:=by
 unfold bD
 rw[List.length_take,List.length_drop]
 omega
theorem iM{α:Type}{L:List α}{lo hi:Int}{x:α}(h:x∈bD L lo hi):x∈L:=List.mem_of_mem_drop (List.mem_of_mem_take h)
theorem f56_lo(a b:Int):(f56 a b).lo=a:=rfl
theorem f56_hi(a b:Int):(f56 a b).hi=b:=rfl
section
variable{t:al}{rg:List aa}{fc:List aj}{sl:List (List aa)}{pc:Int}{rr:Rgs}{pl:Pl2}{x:ao}
theorem f91_l1_ok{Q:Rgs×Wy→Prop}(K:Int→Int→Option (Rgs×Wy))(hK:∀a b,Ne ⟨a,b⟩→Sat (K a b) Q)(L:List (List aa))(hL:bD sl ((f117 (rr (Int.toNat x.a)) (f56 1 (List.length sl:Int))).lo) ((f117 (rr (Int.toNat x.a)) (f56 1 (List.length sl:Int))).hi)=L)(hne:∀r∈L,0<r.length∧∀v∈r,Ne v)(hl:L.length<9223372036854775807):∀(n i:Nat)(a b:Int),Ne ⟨a,b⟩→i≤L.length→L.length<n+i→Sat (f91_l1 sl rr x K n (i:Int) a b) Q
 |0,i,_,_,_,_,h=>oM
 |n+1,i,a,b,hab,hi,h=>by
  rw[f91_l1]
  rw[hL]
  by_cases hh:i<L.length
  ·rw[ltT hh,cdT,aA hh,bnS]
   obtain⟨h0,hnv⟩:=hne _ (List.getElem_mem hh)
   obtain⟨v,hv,hvm⟩:=aE (L:=L[i]) (i:=0) ⟨Int.le_refl _,oM⟩
   rw[hv,bnS,f57_1,bnS,wN oM]
   exact f91_l1_ok K hK L hL hne hl n (i+1) _ _ (ff _ _ hab (hnv v hvm)).1 oM oM
  ·rw[dcF oM,cdF]
   exact hK a b hab
theorem f91_ok(hx:IOk t x)(ho:x.op=3∨x.op=5∨x.op=7)(hs:Sh t.objs rg sl){wy:Wy}(hw:WyOk fc.length wy)(hr:RNe rr):Sat (f91 t rg fc sl pc rr pl wy x) (λz=>WyOk fc.length z.2):=by
 have ha:=hx.r.a oM
 have hd:=hx.r.d
 have hsl:=hs.sl_
 have hol:=hs.ol
 unfold f91
 refine Sat.guard (dj ha) (Sat.cond (λh3=>?_) λ_=>Sat.cond (λh5=>?_) λ_=>Sat.cond (λh7=>?_) λ_=>Sat.pure hw)
 ·rw[decide_eq_true_eq] at h3
  obtain⟨o,e1,e2,e3⟩:=hx.ld (.inl h3)
  obtain⟨row,g,q1,q2,q3,_,q5⟩:=hs.at e1
  rw[q1,bnS]
  refine Sat.bind (Sat.idx ⟨e2,oM⟩) λv hv=>Sat.bind (f116_ok hw hd hr (q5 v (cg hv)).1.2) λr h=>Sat.pure h
 ·rw[decide_eq_true_eq] at h5
  refine Sat.cond (λ_=>Sat.pure hw) λhc=>?_
  obtain⟨o,e1,e2,e3⟩:=hx.ldx (.inl h5)
  have hb:=hx.r.bl (.inl h5)
  obtain⟨row,g,q1,q2,q3,_,q5⟩:=hs.at e1
  have hos:=hs.os1 o (cg e1)
  have hi:=f117_ne (rAt hr ha) hc
  generalize f117 (rr (Int.toNat x.a)) (f56 0 (IntKind.i64.wrap (x.b - 1)))=v at hi⊢
  rw[w64 (x:=x.b - 1) oM oM,f56_lo,f56_hi] at hi
  obtain⟨h1,h2,h4⟩:=hi
  have h1':=h1
  unfold Ne I6 at h1
  rw[w64 (x:=x.m+v.lo) oM oM,w64 (x:=x.m+v.hi) oM oM,w64 (x:=x.m+v.hi+1) oM oM]
  rw[q1,bnS]
  have hlen:=iN (L:=row) (lo:=x.m+v.lo) (hi:=x.m+v.hi+1) oM oM oM
  have hPm:∀z,z∈bD row (x.m+v.lo) (x.m+v.hi+1)→Ne z:=λz hz=>(q5 z (iM hz)).1
  generalize hsf:bD row (x.m+v.lo) (x.m+v.hi+1)=P at hlen hPm⊢
  refine Sat.guard (jH oM oM oM) (Sat.guard (dj ha) (Sat.bind (Sat.idx ⟨Int.le_refl _,oM⟩) λz hz=>Sat.guard (jH oM oM oM) ?_))
  have hl2:=iN (L:=P) (lo:=1) (hi:=(P.length:Int)) oM oM oM
  rw[f57_eq _ _ oM,bnS]
  exact Sat.bind (f116_ok hw hd (hr.set h1' _) (t6 _ _ (hPm z (cg hz)) λy hy=>hPm y (iM hy)).2) λr h=>Sat.pure h
 ·refine Sat.cond (λ_=>Sat.pure hw) λhc=>?_
  have hi:=f117_ne (rAt hr ha) hc
  obtain⟨h1,h2,h4⟩:=hi
  rw[f56_lo] at h2
  rw[f56_hi] at h4
  have h1':=h1
  unfold Ne I6 at h1
  have hrow:∀r∈sl,0<r.length∧∀v∈r,Ne v:=λr hr=>by
   obtain⟨i,hi⟩:=List.getElem?_of_mem hr
   have hil:=(giS.1 hi).1
   obtain⟨o,ho⟩:∃o,t.objs[i]? =some o:=⟨_,geG oM⟩
   have:=hs.row i r o hi ho
   have:=hs.os1 o (List.mem_of_getElem? ho)
   have hrl:=hs.rl
   obtain⟨g,hg⟩:∃g,rg[i]? =some g:=⟨_,geG oM⟩
   exact⟨oM,λv hv=>(hs.sne i r g v hi hg hv).1⟩
  have hmem:∀r,r∈bD sl ((f117 (rr (Int.toNat x.a)) (f56 1 (List.length sl:Int))).lo) ((f117 (rr (Int.toNat x.a)) (f56 1 (List.length sl:Int))).hi)→0<r.length∧∀v∈r,Ne v:=λr hr=>hrow r (iM hr)
  have hlen:=iN (L:=sl) (lo:=(f117 (rr (Int.toNat x.a)) (f56 1 (List.length sl:Int))).lo) (hi:=(f117 (rr (Int.toNat x.a)) (f56 1 (List.length sl:Int))).hi) oM oM oM
  rw[w64 (x:=(f117 (rr (Int.toNat x.a)) (f56 1 (List.length sl:Int))).lo - 1) oM oM]
  refine Sat.bind (Sat.idx (L:=sl) ⟨oM,oM⟩) λr0 hr0=>?_
  obtain⟨_,hr0v⟩:=hrow r0 (cg hr0)
  refine Sat.bind (Sat.idx (L:=r0) (i:=0) ⟨Int.le_refl _,oM⟩) λv hv=>?_
  refine Sat.letk (λK:Int→Int→Option (Rgs×Wy)=>∀a b,Ne ⟨a,b⟩→Sat (K a b) λz=>WyOk fc.length z.2) (λa b hab=>?_) λK hK=>?_
  ·exact Sat.guard (dj ha) (Sat.bind (f116_ok hw hd (hr.set h1' _) hab.2) λr h=>Sat.pure h)
  ·refine Sat.guard (jH oM oM oM) ?_
   exact f91_l1_ok K hK _ rfl hmem oM _ 0 _ _ (hr0v v (cg hv)) oM sM
theorem f93_ok(hx:IOk t x)(ho:9≤x.op∧x.op≤26){wy:Wy}(hw:WyOk fc.length wy)(hr:RNe rr):Sat (f93 t rg fc sl pc rr pl wy x) (WyOk fc.length):=by
 unfold f93
 have ha:=hx.r.a oM
 have hb:=hx.r.b oM oM oM
 refine Sat.guard (dj ha) (Sat.guard (dj hb) ?_)
 exact Sat.bind (f120_ok _ _ _ (rAt hr ha) (rAt hr hb)) λv hv=>Sat.bind (f116_ok hw hx.r.d hr hv) λr h=>Sat.pure h
theorem f94_ok(hx:IOk t x)(ho:x.op=27∨x.op=28)(hl:t.handlers.length≤4096){wy:Wy}(hw:WyOk fc.length wy)(hr:RNe rr):Sat (f94 t rg fc sl pc rr pl wy x) (WyOk fc.length):=by
 have ha:=hx.r.a oM
 unfold f94
 refine Sat.guard (dj ha) (Sat.letk (λK:Bool→Int→Int→Option Wy=>∀c a b,I6 ⟨a,b⟩→Sat (K c a b) (WyOk fc.length)) (λc a b hab=>?_) λK hK=>Sat.cond (λ_=>hK _ _ _ (f117_i6 (rAt hr ha))) λ_=>hK _ _ _ (f121_i6 (rAt hr ha)))
 refine Sat.letk (λK:Wy→Option Wy=>∀w,WyOk fc.length w→Sat (K w) (WyOk fc.length)) (λw h=>Sat.bind (f116_ok h ha hr hab) λr h=>Sat.pure h) λK hK=>?_
 exact Sat.cond (λ_=>Sat.bind (f58_ok hw hl _) λr h=>hK r h) λ_=>hK _ hw
theorem f95_l1_ok(hx:IOk t x)(h32:x.op=32)(last:Int)(K:Wy→Option Wy)(hK:∀w,WyOk fc.length w→Sat (K w) (WyOk fc.length))(hr:RNe rr):∀(n i:Nat)(w:Wy),(i:Int)≤x.m→x.m<n+i→WyOk fc.length w→Sat (f95_l1 t rg fc sl pc rr pl x last K n (i:Int) w) (WyOk fc.length)
 |0,i,_,_,h,_=>oM
 |n+1,i,w,hi,h,hw=>by
  have hm:=hx.jt h32
  rw[f95_l1]
  by_cases hh:(i:Int)<x.m
  ·rw[dcT hh,cdT]
   refine Sat.letk (λK2:Wy→Option Wy=>∀w,WyOk fc.length w→Sat (K2 w) (WyOk fc.length)) (λw hw=>?_) λK2 hK2=>?_
   ·rw[wN oM]
    exact f95_l1_ok hx h32 last K hK hr n (i+1) w (by push_cast;omega) (by push_cast;omega) hw
   ·exact Sat.cond (λ_=>Sat.bind (f122_ok hw (hx.r.a oM) hr (wI _)) λr h=>hK2 r h) λ_=>hK2 _ hw
  ·rw[dcF hh,cdF]
   exact hK w hw
theorem f95_ok(hx:IOk t x)(ho:29≤x.op∧x.op≤32){wy:Wy}(hw:WyOk fc.length wy)(hr:RNe rr):Sat (f95 t rg fc sl pc rr pl wy x) (WyOk fc.length):=by
 have ha:=hx.r.a oM
 unfold f95
 refine Sat.guard (dj ha) (Sat.cond (λ_=>Sat.bind (f90_ok hw _ hr) λr h=>Sat.pure h) λ_=>Sat.cond (λ_=>Sat.bind (f122_ok hw ha hr (f117_i6 (rAt hr ha))) λr h=>Sat.bind (f116_ok h ha hr (f121_i6 (rAt hr ha))) λr h=>Sat.pure h) λ_=>Sat.cond (λ_=>Sat.bind (f122_ok hw ha hr (f121_i6 (rAt hr ha))) λr h=>Sat.bind (f116_ok h ha hr (f117_i6 (rAt hr ha))) λr h=>Sat.pure h) λ_=>Sat.cond (λh32=>?_) λ_=>Sat.pure hw)
 rw[decide_eq_true_eq] at h32
 have hm:=hx.jt h32
 refine Sat.letk (λK:Int→Option Wy=>∀l,Sat (K l) (WyOk fc.length)) (λl=>?_) λK hK=>Sat.cond (λ_=>hK _) λ_=>hK _
 refine Sat.letk (λK:Wy→Option Wy=>∀w,WyOk fc.length w→Sat (K w) (WyOk fc.length)) (λw h=>Sat.cond (λ_=>Sat.bind (f90_ok h _ hr) λr h=>Sat.pure h) λ_=>Sat.pure h) λK hK=>?_
 exact f95_l1_ok hx h32 l K hK hr _ 0 wy oM oM hw
theorem f96_ok(hx:IOk t x)(ho:33≤x.op∧x.op≤35)(hl:t.handlers.length≤4096){wy:Wy}(hw:WyOk fc.length wy)(hr:RNe rr):Sat (f96 t rg fc sl pc rr pl wy x) (WyOk fc.length):=by
 have ha:=hx.r.a oM
 unfold f96
 refine Sat.guard (dj ha) (Sat.letk (λK:Wy→Option Wy=>∀w,WyOk fc.length w→Sat (K w) (WyOk fc.length)) (λw h=>?_) λK hK=>?_)
 ·exact Sat.cond (λ_=>Sat.bind (f58_ok h hl _) λr h=>Sat.pure h) λ_=>Sat.pure h
 ·exact Sat.cond (λ_=>Sat.bind (f116_ok hw ha hr (f117_i6 (rAt hr ha))) λr h=>hK r h) λ_=>hK _ hw
theorem f98_ok(hx:IOk t x)(ho:x.op=2→x.op≤48)(hl:t.handlers.length≤4096)(he:t.excs≤64){wy:Wy}(hw:WyOk fc.length wy)(hr:RNe rr):Sat (f98 t rg fc sl pc rr pl wy x) (WyOk fc.length):=by
 have hd:=hx.r.d
 have i2:∀a b:Int, -9223372036854775808≤a→b≤9223372036854775807→I6 (f56 a b):=λa b h1 h2=>uI h1 h2
 unfold f98
 refine Sat.cond (λ_=>Sat.bind (f116_ok hw hd hr (i6_1 hx.n6)) λr h=>Sat.pure h) λ_=>Sat.cond (λh2=>?_) λ_=>Sat.cond (λ_=>Sat.bind (f116_ok hw hd hr (i2 _ _ oM oM)) λr h=>Sat.pure h) λ_=>Sat.cond (λ_=>Sat.bind (f58_ok hw hl _) λr h=>Sat.bind (f116_ok h hd hr (i2 _ _ oM oM)) λr h=>Sat.pure h) λ_=>Sat.cond (λ_=>Sat.bind (f116_ok hw hd hr (i2 _ _ oM oM)) λr h=>Sat.pure h) λ_=>Sat.cond (λ_=>Sat.bind (f116_ok hw hd hr (i2 _ _ oM oM)) λr h=>Sat.pure h) λ_=>Sat.bind (f90_ok hw _ hr) λr h=>Sat.pure h
 rw[decide_eq_true_eq] at h2
 have ha:=hx.r.a oM
 exact Sat.guard (dj ha) (Sat.bind (f116_ok hw hd hr (rAt hr ha).2) λr h=>Sat.pure h)
end
theorem qx(r:Rgs)(i:Nat)(v:aa):be r i v i=v:=by unfold be;rw[Nat.beq_refl];rfl
section
variable{t:al}{rg:List aa}{fc:List aj}{sl:List (List aa)}{pc:Int}{rr:Rgs}{x:ao}
theorem f92_l1_ok{Q:Rgs×Pl2×Wy→Prop}(wy:Wy)(ha:0≤x.a∧x.a≤15)(rr2:Rgs)(hrr:be rr (Int.toNat x.a) (f117 (rr (Int.toNat x.a)) (f56 0 (IntKind.i64.wrap (x.b - 1))))=rr2)(g:aa)(row:List aa)(h1:idx sl x.n=some row)(h2:idx rg x.n=some g)(hm:0≤x.m∧x.m≤65536)
  (hv:Ne (f117 (rr2 (Int.toNat x.d)) g)∧g.lo≤(f117 (rr2 (Int.toNat x.d)) g).lo∧(f117 (rr2 (Int.toNat x.d)) g).hi≤g.hi)(hi:Int)(hhi:(rr2 (Int.toNat x.a)).hi=hi)(hb:x.m+hi<row.length)(hrl:(row.length:Int)≤65536)(K:Pl2→Option (Rgs×Pl2×Wy))(hK:∀p,PlOk rg sl p→Sat (K p) Q):
  ∀(n:Nat)(k:Int)(p:Pl2),0≤k→0<n→hi+1<n+k→k<4611686018427387904→PlOk rg sl p→Sat (f92_l1 t rg fc sl pc rr wy x g K n k p) Q
 |0,k,p,h0,hk,h,hk2,hp=>oM
 |n+1,k,p,h0,hk,h,hk2,hp=>by
  rw[f92_l1,hrr,hhi]
  refine Sat.guard (dj ha) ?_
  by_cases hh:k≤hi
  ·rw[dcT hh,cdT,w64 (x:=x.m+k) oM oM]
   refine Sat.bind (f119_ok hp h1 h2 ⟨oM,oM⟩ hv) λp' hp'=>?_
   rw[w64 (x:=k+1) oM oM]
   exact f92_l1_ok wy ha rr2 hrr g row h1 h2 hm hv hi hhi hb hrl K hK n (k+1) p' oM (by push_cast at h;omega) (by push_cast at h;omega) oM hp'
  ·rw[dcF hh,cdF]
   exact hK p hp
theorem f92_l2_ok{Q:Rgs×Pl2×Wy→Prop}(wy:Wy)(hs:Sh t.objs rg sl)(ha:0≤x.a∧x.a≤15)(hd:0≤x.d∧x.d≤15)(hr:RNe rr)(rr2:Rgs)(hrr:be rr (Int.toNat x.a) (f117 (rr (Int.toNat x.a)) (f56 1 (List.length sl:Int)))=rr2)(hi:Int)(hhi:(rr2 (Int.toNat x.a)).hi=hi)(hb:hi≤sl.length)(G:Prop)(hG:G→RNe rr2)(K:Bool→Pl2→Option (Rgs×Pl2×Wy))(hK:∀c p,(c=true→G)→PlOk rg sl p→Sat (K c p) Q):
  ∀(n:Nat)(k:Int)(c:Bool)(p:Pl2),1≤k→0<n∧hi+1<n+k→k<4611686018427387904→(k≤hi→G)→(c=true→G)→PlOk rg sl p→Sat (f92_l2 t rg fc sl pc rr wy x K n c k p) Q
 |0,k,c,p,h0,h,hk2,hg,hc,hp=>oM
 |n+1,k,c,p,h0,h,hk2,hg,hc,hp=>by
  have hol:=hs.ol
  have hsl:=hs.sl_
  have hrl:=hs.rl
  rw[f92_l2,hrr,hhi]
  refine Sat.guard (dj ha) ?_
  by_cases hh:k≤hi
  ·rw[dcT hh,cdT]
   have h2:=h.2
   push_cast at h2
   have ih:=λc p hc hp=>f92_l2_ok wy hs ha hd hr rr2 hrr hi hhi hb G hG K hK n (k+1) c p oM ⟨oM,oM⟩ oM (λh=>hg oM) hc hp
   refine Sat.letk (λK2:Bool→Pl2→Int→Int→Option (Rgs×Pl2×Wy)=>∀c p a b,(c=true→G)→PlOk rg sl p→Sat (K2 c p a b) Q) (λc p a b hc hp=>?_) λK2 hK2=>?_
   ·rw[w64 (x:=k+1) oM oM]
    exact ih c p hc hp
   ·refine Sat.guard (dj hd) ?_
    rw[w64 (x:=k - 1) oM oM]
    obtain⟨o,ho,hom⟩:=aE (L:=t.objs) (i:=k - 1) ⟨oM,oM⟩
    obtain⟨row,g,q1,q2,q3,_⟩:=hs.at ho
    have:=hs.os1 o hom
    rw[q2,bnS]
    refine Sat.cond (λhcc=>?_) λ_=>hK2 _ _ _ _ hc hp
    rw[Bool.not_eq_true'] at hcc
    exact Sat.bind (f119_ok hp q1 q2 ⟨Int.le_refl _,oM⟩ (f117_ne (rAt (hG (hg hh)) hd) hcc)) λp' hp'=>hK2 _ _ _ _ (λ_=>hg hh) hp'
  ·rw[dcF hh,cdF]
   exact hK c p hc hp
theorem f92_ok(hx:IOk t x)(ho:x.op=4∨x.op=6∨x.op=8)(hs:Sh t.objs rg sl){wy:Wy}(hw:WyOk fc.length wy)(hr:RNe rr){pl:Pl2}(hp:PlOk rg sl pl):Sat (f92 t rg fc sl pc rr pl wy x) (λz=>PlOk rg sl z.2.1∧WyOk fc.length z.2.2):=by
 have ha:=hx.r.a oM
 have hd:=hx.r.d
 have hol:=hs.ol
 have hsl:=hs.sl_
 unfold f92
 refine Sat.guard (dj ha) (Sat.cond (λh4=>?_) λ_=>Sat.cond (λh6=>?_) λ_=>Sat.cond (λh8=>?_) λ_=>Sat.pure ⟨hp,hw⟩)
 ·rw[decide_eq_true_eq] at h4
  obtain⟨o,e1,e2,e3⟩:=hx.ld (.inr h4)
  obtain⟨row,g,q1,q2,q3,_⟩:=hs.at e1
  rw[q2,bnS]
  refine Sat.cond (λhc=>?_) λ_=>Sat.pure ⟨hp,hw⟩
  rw[Bool.not_eq_true'] at hc
  exact Sat.bind (f119_ok hp q1 q2 ⟨e2,oM⟩ (f117_ne (rAt hr ha) hc)) λp hp=>Sat.bind (f116_ok hw ha hr (f117_i6 (rAt hr ha))) λr h=>Sat.pure ⟨hp,h⟩
 ·rw[decide_eq_true_eq] at h6
  obtain⟨o,e1,e2,e3⟩:=hx.ldx (.inr h6)
  have hb:=hx.r.bl (.inr h6)
  obtain⟨row,g,q1,q2,q3,_⟩:=hs.at e1
  have hos:=hs.os1 o (cg e1)
  generalize hrr:be rr (Int.toNat x.a) (f117 (rr (Int.toNat x.a)) (f56 0 (IntKind.i64.wrap (x.b - 1))))=rr2
  have hra:rr2 (Int.toNat x.a)=f117 (rr (Int.toNat x.a)) (f56 0 (IntKind.i64.wrap (x.b - 1))):=by rw[←hrr,qx]
  refine Sat.guard (dj ha) (Sat.guard (dj hd) ?_)
  rw[q2,bnS]
  refine Sat.guard (dj ha) (Sat.cond (λ_=>Sat.pure ⟨hp,hw⟩) λhc=>?_)
  rw[Bool.or_eq_false_iff] at hc
  have hi:=f117_ne (rAt hr ha) (by rw[←hra];exact hc.1)
  rw[←hra,w64 (x:=x.b - 1) oM oM,f56_lo,f56_hi] at hi
  obtain⟨h1,h2,h3⟩:=hi
  have hr2:RNe rr2:=by rw[←hrr];exact hr.set (by rw[←hra];exact h1) _
  unfold Ne I6 at h1
  refine Sat.letk (λK:Pl2→Option (Rgs×Pl2×Wy)=>∀p,PlOk rg sl p→Sat (K p) λz=>PlOk rg sl z.2.1∧WyOk fc.length z.2.2) (λp hp=>?_) λK hK=>?_
  ·exact Sat.bind (f116_ok hw hd hr2 (f117_i6 (rAt hr2 hd))) λr h=>Sat.pure ⟨hp,h⟩
  ·refine Sat.guard (dj ha) ?_
   exact f92_l1_ok wy ha rr2 hrr g row q1 q2 ⟨e2,oM⟩ (f117_ne (rAt hr2 hd) hc.2) _ rfl oM oM K hK _ _ _ h2 oM oM oM hp
 ·rw[decide_eq_true_eq] at h8
  generalize hrr:be rr (Int.toNat x.a) (f117 (rr (Int.toNat x.a)) (f56 1 (List.length sl:Int)))=rr2
  have hra:rr2 (Int.toNat x.a)=f117 (rr (Int.toNat x.a)) (f56 1 (List.length sl:Int)):=by rw[←hrr,qx]
  have hG:Ne (rr2 (Int.toNat x.a))→RNe rr2:=λhc=>by rw[←hrr];exact hr.set (by rw[←hra];exact hc) _
  have hi:(1:Int)≤(rr2 (Int.toNat x.a)).lo∧(rr2 (Int.toNat x.a)).hi≤(sl.length:Int)∧(rr2 (Int.toNat x.a)).lo≤9223372036854775807 / 2∧0≤(rr2 (Int.toNat x.a)).hi:=by
   rw[hra]
   rcases f117_spec (rr (Int.toNat x.a)) (f56 1 (List.length sl:Int)) with⟨h1,h2,h3,_⟩|h1
   ·rw[f56_lo] at h2
    rw[f56_hi] at h3
    omega
   ·rw[h1];dsimp only;omega
  refine Sat.guard (dj ha) (Sat.letk (λK:Bool→Pl2→Option (Rgs×Pl2×Wy)=>∀c p,(c=true→Ne (rr2 (Int.toNat x.a)))→PlOk rg sl p→Sat (K c p) λz=>PlOk rg sl z.2.1∧WyOk fc.length z.2.2) (λc p hc hp=>?_) λK hK=>?_)
  ·refine Sat.cond (λhct=>?_) λ_=>Sat.pure ⟨hp,hw⟩
   have hr2:RNe rr2:=hG (hc hct)
   exact Sat.bind (f90_ok hw _ hr2) λr h=>Sat.pure ⟨hp,h⟩
  ·refine Sat.guard (dj ha) ?_
   exact f92_l2_ok wy hs ha hd hr rr2 hrr _ rfl hi.2.1 (Ne (rr2 (Int.toNat x.a))) hG K hK _ _ _ _ hi.1 oM oM (λh=>⟨h,by rw[hra];exact f117_i6 (rAt hr ha)⟩) (λh=>by cases h) hp
end
section
variable{t:al}{rg:List aa}{fc:List aj}{sl:List (List aa)}{pc:Int}{rr:Rgs}{x:ao}
theorem f123_l3_ok{wy:Wy}(hs:Sh t.objs rg sl){o:Int}{row:List aa}{g:aa}(h1:idx sl o=some row)(h2:idx rg o=some g)(hg:Ne g)(hl:row.length≤65536)(K:Pl2→Option Pl2)(hK:∀p,PlOk rg sl p→Sat (K p) (PlOk rg sl)):∀(n i:Nat)(p:Pl2),i≤row.length→row.length<n+i→PlOk rg sl p→Sat (f123_l3 t rg fc sl pc rr wy o K row n (i:Int) p) (PlOk rg sl)
 |0,i,_,_,h,_=>oM
 |n+1,i,p,hi,h,hp=>by
  rw[f123_l3]
  by_cases hh:i<row.length
  ·rw[ltT hh,cdT,h2,bnS]
   refine Sat.bind (f119_ok hp h1 h2 ⟨oM,oM⟩ ⟨hg,Int.le_refl _,Int.le_refl _⟩) λp' hp'=>?_
   rw[wN oM]
   exact f123_l3_ok hs h1 h2 hg hl K hK n (i+1) p' oM oM hp'
  ·rw[dcF oM,cdF]
   exact hK p hp
theorem f123_l2_ok{wy:Wy}(hs:Sh t.objs rg sl)(v:aa)(b:Int)(hb:(if(Int.fdiv v.hi (2^min (Int.toNat 32) IntKind.i64.bits))<(IntKind.i64.wrap ((List.length sl:Int) - 1)) then(Int.fdiv v.hi (2^min (Int.toNat 32) IntKind.i64.bits)) else(IntKind.i64.wrap ((List.length sl:Int) - 1)))=b)(hbl:b<sl.length)(K:Pl2→Int→Int→Option Pl2)(hK:∀p c d,PlOk rg sl p→Sat (K p c d) (PlOk rg sl)):∀(n:Nat)(o:Int)(p:Pl2),0≤o→0<n∧b+1<n+o→PlOk rg sl p→Sat (f123_l2 t rg fc sl pc rr wy K v n o p) (PlOk rg sl)
 |0,o,_,_,h,_=>oM
 |n+1,o,p,h0,h,hp=>by
  have hol:=hs.ol
  have hsl:=hs.sl_
  rw[f123_l2,hb]
  by_cases hh:o≤b
  ·rw[dcT hh,cdT]
   have h2:=h.2
   push_cast at h2
   refine Sat.letk (λK2:Pl2→Option Pl2=>∀p,PlOk rg sl p→Sat (K2 p) (PlOk rg sl)) (λp hp=>?_) λK2 hK2=>?_
   ·rw[w64 (x:=o+1) oM oM]
    exact f123_l2_ok hs v b hb hbl K hK n (o+1) p oM ⟨oM,oM⟩ hp
   ·obtain⟨ob,ho,hom⟩:=aE (L:=t.objs) (i:=o) ⟨oM,oM⟩
    obtain⟨row,g,q1,q2,q3,q4,_⟩:=hs.at ho
    have:=hs.os1 ob hom
    rw[q1,bnS]
    exact f123_l3_ok hs q1 q2 q4 oM K2 hK2 _ 0 p oM sM hp
  ·rw[dcF hh,cdF]
   exact hK _ _ _ hp
theorem f123_ok(hx:IOk t x)(hb:Bdt t)(h49:x.op=49)(hs:Sh t.objs rg sl){wy:Wy}{pl:Pl2}(hp:PlOk rg sl pl):Sat (f123 t rg fc sl pc rr pl wy x) (PlOk rg sl):=by
 obtain⟨tk,e,o,h1,h2,h3,h4⟩:=hx.call h49
 obtain⟨row,g,q1,q2,q3,_⟩:=hs.at h3
 have hos:=hs.os1 o (cg h3)
 have hol:=hs.ol
 have hsl:=hs.sl_
 unfold f123
 rw[h1,bnS,h2,bnS]
 have key:∀(n i:Nat)(p:Pl2),i≤e.outs.length→e.outs.length<n+i→PlOk rg sl p→Sat (f123_l1 t rg fc sl pc rr wy x e n (i:Int) p) (PlOk rg sl):=by
  intro n
  induction n with
  |zero=>intro i p _ h;omega
  |succ n ih=>
   intro i p hi h hp
   rw[f123_l1]
   by_cases hh:i<e.outs.length
   ·rw[ltT hh,cdT]
    refine Sat.letk (λK:Pl2→Int→Int→Option Pl2=>∀p c d,PlOk rg sl p→Sat (K p c d) (PlOk rg sl)) (λp c d hp=>?_) λK hK=>?_
    ·rw[wN oM]
     exact ih (i+1) p oM oM hp
    ·rw[q1,bnS,w64 (x:=(List.length e.ins:Int)+(i:Int)) oM oM]
     refine Sat.bind (Sat.idx ⟨oM,oM⟩) λv _=>?_
     refine f123_l2_ok hs v _ rfl ?_ K hK _ _ _ ?_ ⟨oM,?_⟩ hp
     ·rw[w64 (x:=(List.length sl:Int) - 1) oM oM]
      split<;>omega
     ·split<;>omega
     ·rw[w64 (x:=(List.length sl:Int) - 1) oM oM]
      show _<(9223372036854775808:Int)+_
      split<;>split<;>omega
   ·rw[dcF oM,cdF]
    exact Sat.pure hp
 exact key _ 0 pl oM sM hp
theorem and15(a:Int):0≤IntKind.i64.wrap ((BitVec.ofInt IntKind.i64.bits a&&&BitVec.ofInt IntKind.i64.bits 15).toNat:Int)∧IntKind.i64.wrap ((BitVec.ofInt IntKind.i64.bits a&&&BitVec.ofInt IntKind.i64.bits 15).toNat:Int)≤15:=by
 have h:(BitVec.ofInt IntKind.i64.bits a&&&BitVec.ofInt IntKind.i64.bits 15).toNat≤15:=by
  rw[BitVec.toNat_and]
  exact Nat.le_trans Nat.and_le_right dC
 rw[w64 oM oM]
 omega
theorem f99_l1_ok{Q:Rgs×Pl2×Wy→Prop}(K:Rgs→Option (Rgs×Pl2×Wy))(hK:∀r,RNe r→Sat (K r) Q):∀(n i:Nat)(r:Rgs),i≤16→16<n+i→RNe r→Sat (f99_l1 K n (i:Int) r) Q
 |0,i,_,_,h,_=>oM
 |n+1,i,r,hi,h,hr=>by
  rw[f99_l1]
  by_cases hh:i<16
  ·rw[dcT oM,cdT,bx _ (jF hh),Int.toNat_natCast,f57_1,bnS,bx _ (jF hh),wN oM]
   exact f99_l1_ok K hK n (i+1) _ oM oM (hr.set (ff _ _ (hr i hh) (show Ne ⟨0,0⟩ from qv 0 oM)).1 i)
  ·rw[dcF oM,cdF]
   exact hK r hr
theorem f99_l2_ok{pl:Pl2}(hp:PlOk rg sl pl){r:Rgs}(hr:RNe r)(s:c4)(hl:s.alts.length≤65536):∀(n i:Nat)(w:Wy),i≤s.alts.length→s.alts.length<n+i→WyOk fc.length w→Sat (f99_l2 t rg fc sl pc pl r s n (i:Int) w) (λz=>PlOk rg sl z.2.1∧WyOk fc.length z.2.2)
 |0,i,_,_,h,_=>oM
 |n+1,i,w,hi,h,hw=>by
  rw[f99_l2]
  by_cases hh:i<s.alts.length
  ·rw[ltT hh,cdT,aA hh,bnS]
   refine Sat.bind (f90_ok hw _ hr) λw' hw'=>?_
   rw[wN oM]
   exact f99_l2_ok hp hr s hl n (i+1) w' oM oM hw'
  ·rw[dcF oM,cdF]
   exact Sat.pure ⟨hp,hw⟩
theorem f99_ok(hx:IOk t x)(ho:44≤x.op)(hb:Bdt t)(he:t.excs≤64)(hs:Sh t.objs rg sl){wy:Wy}(hw:WyOk fc.length wy)(hr:RNe rr){pl:Pl2}(hp:PlOk rg sl pl):Sat (f99 t rg fc sl pc rr pl wy x) (λz=>PlOk rg sl z.2.1∧WyOk fc.length z.2.2):=by
 have hd:=hx.r.d
 have h15:=and15 x.a
 have hr0:=hr
 unfold f99
 generalize(IntKind.i64.wrap ((BitVec.ofInt IntKind.i64.bits x.a&&&BitVec.ofInt IntKind.i64.bits 15).toNat:Int))=a15 at h15⊢
 refine Sat.guard (dj h15) (Sat.letk (λK:Rgs→Option (Rgs×Pl2×Wy)=>∀r,RNe r→Sat (K r) λz=>PlOk rg sl z.2.1∧WyOk fc.length z.2.2) (λr hr=>?_) λK hK=>f99_l1_ok K hK _ 0 rr oM oM hr)
 refine Sat.letk (λK:Wy→Option (Rgs×Pl2×Wy)=>∀w,WyOk fc.length w→Sat (K w) λz=>PlOk rg sl z.2.1∧WyOk fc.length z.2.2) (λw hw=>?_) λK hK=>Sat.cond (λ_=>Sat.pure ⟨hp,hw⟩) λ_=>?_
 ·refine Sat.cond (λh46=>?_) λ_=>Sat.cond (λh49=>?_) λ_=>Sat.cond (λ_=>Sat.bind (f116_ok hw hd hr (uI oM oM)) λr h=>Sat.pure ⟨hp,h⟩) λ_=>Sat.cond (λ_=>Sat.bind (f90_ok hw _ hr) λr h=>Sat.pure ⟨hp,h⟩) λ_=>Sat.cond (λh50=>?_) λ_=>Sat.bind (f90_ok hw _ hr) λr h=>Sat.pure ⟨hp,h⟩
  ·rw[decide_eq_true_eq] at h46
   rw[f57_1,bnS]
   exact Sat.bind (f116_ok hw (hx.r.a oM) hr (J_i6 (rAt hr0 h15).2 (uI oM oM))) λr h=>Sat.pure ⟨hp,h⟩
  ·rw[decide_eq_true_eq] at h49
   exact Sat.bind (f123_ok hx hb h49 hs hp) λp hp=>Sat.bind (f116_ok hw hd hr (uI oM oM)) λr h=>Sat.pure ⟨hp,h⟩
  ·rw[decide_eq_true_eq] at h50
   obtain⟨s,hs⟩:=hx.sel h50
   have:=hb.alts s (cg hs)
   rw[hs,bnS]
   exact Sat.bind (f90_ok hw _ hr) λw hw=>f99_l2_ok hp hr s oM _ 0 w oM sM hw
 ·refine Sat.letk (λK2:Bool→Option (Rgs×Pl2×Wy)=>∀c,Sat (K2 c) λz=>PlOk rg sl z.2.1∧WyOk fc.length z.2.2) (λc=>?_) λK2 hK2=>Sat.cond (λ_=>hK2 _) λ_=>Sat.cond (λ_=>hK2 _) λ_=>Sat.cond (λ_=>hK2 _) λ_=>hK2 _
  exact Sat.cond (λ_=>Sat.bind (f58_ok hw hb.handlers _) λr h=>hK r h) λ_=>hK _ hw
def tg(o:Int):Nat:=if o=3∨o=5∨o=7 then 91 else if o=4∨o=6∨o=8 then 92 else if 9≤o∧o≤26 then 93 else if o=27∨o=28 then 94 else if 29≤o∧o≤32 then 95 else if o=33∨o=34∨o=35 then 96 else if¬(42≤o∧o<58)∨o=42∨o=43 then 98 else 99
theorem qk{α:Type}{p:Prop}[Decidable p]{b:Bool}(a c:α)(h:b=true↔p):(bif b then a else c)=if p then a else c:=by
 by_cases hp:p
 ·rw[if_pos hp,h.2 hp];rfl
 ·rw[if_neg hp]
  have:b=false:=by rw[←Bool.not_eq_true,h];exact hp
  rw[this];rfl
theorem f59_eq(wy:Wy)(pl:Pl2)(o:Int):f59 t rg fc sl pc rr pl wy o=some (tg o):=by
 unfold f59 tg f97
 rw[qk (p:=o=3∨o=5∨o=7) _ _ (by simp[or_assoc]),qk (p:=o=4∨o=6∨o=8) _ _ (by simp[or_assoc]),qk (p:=9≤o∧o≤26) _ _ sM,qk (p:=o=27∨o=28) _ _ sM,qk (p:=29≤o∧o≤32) _ _ sM,qk (p:=o=33∨o=34∨o=35) _ _ (by simp[or_assoc]),qk (p:=¬(42≤o∧o<58)∨o=42∨o=43) _ _ (by simp[or_assoc];omega)]
 repeat' split
 all_goals rfl
theorem vu(hx:IOk t x)(hb:Bdt t)(he:t.excs≤64)(hs:Sh t.objs rg sl){wy:Wy}(hw:WyOk fc.length wy)(hr:RNe rr):Sat (fm (tg x.op) t rg fc sl pc rr [] wy x) (λz=>PlOk rg sl z.2.1∧WyOk fc.length z.2.2):=by
 have ho:=hx.r.o
 have hp:PlOk rg sl []:=PlOk.nil
 unfold fm tg
 split
 ·exact Sat.bind (f91_ok hx oM hs hw hr) λz h=>Sat.pure ⟨hp,h⟩
 split
 ·exact Sat.bind (f92_ok hx oM hs hw hr hp) λz h=>Sat.pure h
 split
 ·exact Sat.bind (f93_ok hx oM hw hr) λz h=>Sat.pure ⟨hp,h⟩
 split
 ·exact Sat.bind (f94_ok hx oM hb.handlers hw hr) λz h=>Sat.pure ⟨hp,h⟩
 split
 ·exact Sat.bind (f95_ok hx oM hw hr) λz h=>Sat.pure ⟨hp,h⟩
 split
 ·exact Sat.bind (f96_ok hx oM hb.handlers hw hr) λz h=>Sat.pure ⟨hp,h⟩
 split
 ·exact Sat.bind (f98_ok hx oM hb.handlers he hw hr) λz h=>Sat.pure ⟨hp,h⟩
 ·exact Sat.bind (f99_ok hx oM hb he hs hw hr hp) λz h=>Sat.pure h
end
section
variable{t:al}{rg:List aa}{fc fd:List aj}{sl:List (List aa)}{pc:Int}
theorem oZ(hl:fc.length=fd.length):f90 t rg fc=f90 t rg fd:=by
 funext a b c d e f g
 unfold f90
 rw[hl]
theorem q8:f119 t rg fc=f119 t rg fd:=rfl
theorem kp(hl:fc.length=fd.length):f116 t rg fc=f116 t rg fd:=by
 funext a b c d e f g
 unfold f116
 rw[oZ hl]
theorem vx(hl:fc.length=fd.length):f122 t rg fc=f122 t rg fd:=by
 funext a b c d e f g h
 unfold f122
 rw[oZ hl]
theorem tM(hl:fc.length=fd.length):f58 t rg fc=f58 t rg fd:=by
 funext a b c d e f
 unfold f58
 simp only[oZ hl]
theorem ec91(hl:fc.length=fd.length):f91 t rg fc=f91 t rg fd:=by
 funext a b c d e f
 unfold f91
 simp only[kp hl]
theorem tL(rr:Rgs)(wy:Wy)(x:ao)(g:aa)(K:Pl2→Option (Rgs×Pl2×Wy)):∀(n:Nat)(k:Int)(p:Pl2),f92_l1 t rg fc sl pc rr wy x g K n k p=f92_l1 t rg fd sl pc rr wy x g K n k p
 |0,_,_=>rfl
 |n+1,k,p=>by
  rw[f92_l1,f92_l1,q8 (fc:=fc) (fd:=fd)]
  have ih:=tL rr wy x g K n
  simp only[ih]
theorem tK(rr:Rgs)(wy:Wy)(x:ao)(K:Bool→Pl2→Option (Rgs×Pl2×Wy)):∀(n:Nat)(c:Bool)(k:Int)(p:Pl2),f92_l2 t rg fc sl pc rr wy x K n c k p=f92_l2 t rg fd sl pc rr wy x K n c k p
 |0,_,_,_=>rfl
 |n+1,c,k,p=>by
  rw[f92_l2,f92_l2,q8 (fc:=fc) (fd:=fd)]
  have ih:=tK rr wy x K n
  simp only[ih]
theorem ec92(hl:fc.length=fd.length):f92 t rg fc=f92 t rg fd:=by
 funext a b c d e f
 unfold f92
 simp only[kp hl,oZ hl,q8 (fc:=fc) (fd:=fd)]
 obtain⟨N,hN⟩:∃N,N=9223372036854775808:=⟨_,rfl⟩
 simp only[←hN]
 simp only[tL (fc:=fc) (fd:=fd),tK (fc:=fc) (fd:=fd)]
theorem ec93(hl:fc.length=fd.length):f93 t rg fc=f93 t rg fd:=by
 funext a b c d e f
 unfold f93
 simp only[kp hl]
theorem ec94(hl:fc.length=fd.length):f94 t rg fc=f94 t rg fd:=by
 funext a b c d e f
 unfold f94
 simp only[kp hl,tM hl]
theorem tJ(hl:fc.length=fd.length)(rr:Rgs)(pl:Pl2)(x:ao)(l:Int)(K:Wy→Option Wy):∀(n:Nat)(k:Int)(w:Wy),f95_l1 t rg fc sl pc rr pl x l K n k w=f95_l1 t rg fd sl pc rr pl x l K n k w
 |0,_,_=>rfl
 |n+1,k,p=>by
  rw[f95_l1,f95_l1,vx hl]
  have ih:=tJ hl rr pl x l K n
  simp only[ih]
theorem ec95(hl:fc.length=fd.length):f95 t rg fc=f95 t rg fd:=by
 funext a b c d e f
 unfold f95
 simp only[kp hl,vx hl,oZ hl,tJ hl]
theorem ec96(hl:fc.length=fd.length):f96 t rg fc=f96 t rg fd:=by
 funext a b c d e f
 unfold f96
 simp only[kp hl,tM hl]
theorem ec98(hl:fc.length=fd.length):f98 t rg fc=f98 t rg fd:=by
 funext a b c d e f
 unfold f98
 simp only[kp hl,tM hl,oZ hl]
theorem qX(rr:Rgs)(wy:Wy)(o:Int)(K:Pl2→Option Pl2)(row:List aa):∀(n:Nat)(k:Int)(p:Pl2),f123_l3 t rg fc sl pc rr wy o K row n k p=f123_l3 t rg fd sl pc rr wy o K row n k p
 |0,_,_=>rfl
 |n+1,k,p=>by
  rw[f123_l3,f123_l3,q8 (fc:=fc) (fd:=fd)]
  have ih:=qX rr wy o K row n
  simp only[ih]
theorem qY(rr:Rgs)(wy:Wy)(K:Pl2→Int→Int→Option Pl2)(v:aa):∀(n:Nat)(k:Int)(p:Pl2),f123_l2 t rg fc sl pc rr wy K v n k p=f123_l2 t rg fd sl pc rr wy K v n k p
 |0,_,_=>rfl
 |n+1,k,p=>by
  rw[f123_l2,f123_l2]
  have ih:=qY rr wy K v n
  simp only[ih,qX (fc:=fc) (fd:=fd)]
theorem qZ(rr:Rgs)(wy:Wy)(x:ao)(e:bO):∀(n:Nat)(k:Int)(p:Pl2),f123_l1 t rg fc sl pc rr wy x e n k p=f123_l1 t rg fd sl pc rr wy x e n k p
 |0,_,_=>rfl
 |n+1,k,p=>by
  obtain⟨N,hN⟩:∃N,N=9223372036854775808:=⟨_,rfl⟩
  rw[f123_l1,f123_l1]
  have ih:=qZ rr wy x e n
  simp only[←hN]
  simp only[ih,qY (fc:=fc) (fd:=fd)]
theorem ec123:f123 t rg fc=f123 t rg fd:=by
 funext a b c d e f
 unfold f123
 simp only[qZ (fc:=fc) (fd:=fd)]
theorem tI(hl:fc.length=fd.length)(pl:Pl2)(r:Rgs)(s:c4):∀(n:Nat)(k:Int)(w:Wy),f99_l2 t rg fc sl pc pl r s n k w=f99_l2 t rg fd sl pc pl r s n k w
 |0,_,_=>rfl
 |n+1,k,p=>by
  rw[f99_l2,f99_l2,oZ hl]
  have ih:=tI hl pl r s n
  simp only[ih]
theorem ec99(hl:fc.length=fd.length):f99 t rg fc=f99 t rg fd:=by
 funext a b c d e f
 unfold f99
 simp only[kp hl,tM hl,oZ hl,ec123 (fc:=fc) (fd:=fd),tI hl]
theorem ecfm(hl:fc.length=fd.length)(n:Nat):fm n t rg fc=fm n t rg fd:=by
 funext a b c d e f
 unfold fm
 rw[ec91 hl,ec92 hl,ec93 hl,ec94 hl,ec95 hl,ec96 hl,ec98 hl,ec99 hl]
end
def mX(t:al)(rg:List aa)(fc:List aj)(sl:List (List aa))(a:Int)(r:Rgs)(x:ao):Option (Pl2×Wy):=
 (f58 t rg fc sl a r [] [] true).bind λw=>(fm (tg x.op) t rg fc sl a r [] w x).bind λz=>some (z.2.1,z.2.2)
theorem sL{t:al}{rg:List aa}{fc fd:List aj}(hl:fc.length=fd.length):mX t rg fc=mX t rg fd:=by
 funext a b c d
 unfold mX
 rw[tM hl,ecfm hl]
def Isub(x y:aa):Prop:=y.lo≤x.lo∧x.hi≤y.hi
theorem Isub.refl(x:aa):Isub x x:=⟨Int.le_refl _,Int.le_refl _⟩
theorem Isub.trans{x y z:aa}(h:Isub x y)(g:Isub y z):Isub x z:=⟨Int.le_trans g.1 h.1,Int.le_trans h.2 g.2⟩
def gU(w:Bool)(m x v:aa):aa:=if f65 v x=true then x else bif w then W x (J x v) m else J x v
theorem f65_sub{v x:aa}(hv:Ne v):f65 v x=true↔Isub v x:=by
 unfold Ne at hv
 rw[f65_iff]
 unfold Li Isub
 constructor
 ·intro h;omega
 ·intro h;omega
def pv(m x:aa):Nat:=(if x.lo≤-9223372036854775808 then 0 else if x.lo≤m.lo then 1 else 2)+(if 9223372036854775807≤x.hi then 0 else if m.hi≤x.hi then 1 else 2)
theorem vg(m x:aa):pv m x≤4:=by unfold pv;split<;>split<;>(try split)<;>(try split)<;>omega
theorem qF{m x y:aa}(h:Isub x y):pv m y≤pv m x:=by
 unfold Isub at h
 unfold pv
 have h1:(if y.lo≤-9223372036854775808 then 0 else if y.lo≤m.lo then 1 else 2)≤(if x.lo≤-9223372036854775808 then 0 else if x.lo≤m.lo then 1 else 2):=by
  (repeat' split)<;>omega
 have h2:(if 9223372036854775807≤y.hi then 0 else if m.hi≤y.hi then 1 else 2)≤(if 9223372036854775807≤x.hi then 0 else if m.hi≤x.hi then 1 else 2):=by
  (repeat' split)<;>omega
 omega
theorem vC{a b m:aa}(hb:I6 b)(h:Isub a b):Isub b (W a b m):=by
 unfold Isub I6 at*
 unfold W
 constructor
 ·dsimp only;(repeat' split)<;>omega
 ·dsimp only;(repeat' split)<;>omega
theorem W_ne{a b m:aa}(ha:Ne a)(hb:Ne b)(hm:I6 m)(h:Isub a b):Ne (W a b m):=by
 have h1:=vC (m:=m) hb.2 h
 unfold Ne I6 Isub at*
 refine⟨oM,?_,?_⟩
 ·unfold W;dsimp only;(repeat' split)<;>omega
 ·unfold W;dsimp only;(repeat' split)<;>omega
theorem W_in{a b m:aa}(h1:Isub a m)(h2:Isub b m):Isub (W a b m) m:=by
 unfold Isub at*
 unfold W
 constructor
 ·dsimp only;(repeat' split)<;>omega
 ·dsimp only;(repeat' split)<;>omega
theorem W_pv{a b m:aa}(hb:I6 b)(h:Isub a b)(hne:a.lo≠b.lo∨a.hi≠b.hi):pv m (W a b m)<pv m a:=by
 unfold Isub I6 at*
 have h1:(if(W a b m).lo≤-9223372036854775808 then 0 else if(W a b m).lo≤m.lo then 1 else 2)+(if a.lo=b.lo then 0 else 1)≤(if a.lo≤-9223372036854775808 then 0 else if a.lo≤m.lo then 1 else 2):=by
  unfold W
  dsimp only
  by_cases q1:a.lo≤b.lo
  ·rw[if_pos q1,if_pos (show a.lo=b.lo by omega)];omega
  ·rw[if_neg q1,if_neg (show¬a.lo=b.lo by omega)]
   by_cases q2:m.lo≤b.lo
   ·rw[if_pos q2,if_neg (show¬a.lo≤-9223372036854775808 by omega),if_neg (show¬a.lo≤m.lo by omega)]
    (repeat' split)<;>omega
   ·rw[if_neg q2,if_pos (Int.le_refl _)]
    (repeat' split)<;>omega
 have h2:(if 9223372036854775807≤(W a b m).hi then 0 else if m.hi≤(W a b m).hi then 1 else 2)+(if a.hi=b.hi then 0 else 1)≤(if 9223372036854775807≤a.hi then 0 else if m.hi≤a.hi then 1 else 2):=by
  unfold W
  dsimp only
  by_cases q1:a.hi≥b.hi
  ·rw[if_pos q1,if_pos (show a.hi=b.hi by omega)];omega
  ·rw[if_neg q1,if_neg (show¬a.hi=b.hi by omega)]
   by_cases q2:m.hi≥b.hi
   ·rw[if_pos q2,if_neg (show¬9223372036854775807≤a.hi by omega),if_neg (show¬m.hi≤a.hi by omega)]
    (repeat' split)<;>omega
   ·rw[if_neg q2,if_pos (Int.le_refl _)]
    (repeat' split)<;>omega
 unfold pv
 rcases hne with hne|hne
 ·rw[if_neg hne] at h1;omega
 ·rw[if_neg hne] at h2;omega
structure GU(w:Bool)(m x v:aa):Prop where
 ne:Ne (gU w m x v)
 x_:Isub x (gU w m x v)
 v_:Isub v (gU w m x v)
 in_:Isub x m→Isub v m→Isub (gU w m x v) m
 lt:w=true→f65 v x=false→pv m (gU w m x v)<pv m x
theorem oT{w:Bool}{m x v:aa}(hx:Ne x)(hv:Ne v)(hm:I6 m):GU w m x v:=by
 by_cases h:f65 v x=true
 ·have e:gU w m x v=x:=by unfold gU;rw[if_pos h]
  refine⟨by rw[e];exact hx,by rw[e];exact Isub.refl _,by rw[e];exact(f65_sub hv).1 h,λa _=>by rw[e];exact a,λ_ h2=>by rw[h] at h2;cases h2⟩
 ·obtain⟨j1,j2,j3,j4,j5,j6,j7⟩:=ff x v hx hv
  have hs:¬Isub v x:=λq=>h ((f65_sub hv).2 q)
  cases w with
  |false=>
   have e:gU false m x v=J x v:=by unfold gU;rw[if_neg h];rfl
   refine⟨by rw[e];exact j1,by rw[e];exact⟨j2,j4⟩,by rw[e];exact⟨j3,j5⟩,λa b=>?_,λh=>by cases h⟩
   rw[e];unfold Isub at*;omega
  |true=>
   have e:gU true m x v=W x (J x v) m:=by unfold gU;rw[if_neg h];rfl
   have s1:Isub x (J x v):=⟨j2,j4⟩
   have s2:Isub v (J x v):=⟨j3,j5⟩
   have s3:=vC (m:=m) j1.2 s1
   refine⟨by rw[e];exact W_ne hx j1 hm s1,by rw[e];exact s1.trans s3,by rw[e];exact s2.trans s3,λa b=>?_,λ_ _=>?_⟩
   ·rw[e];exact W_in a (by unfold Isub at*;omega)
   ·rw[e]
    refine W_pv j1.2 s1 ?_
    unfold Isub at hs
    omega
theorem GU.le{w:Bool}{m x v:aa}(h:GU w m x v):pv m (gU w m x v)≤pv m x:=qF h.x_
theorem kF{w:Bool}{m x v:aa}(h:f65 v x=true):gU w m x v=x:=by unfold gU;rw[if_pos h]
theorem eW{α:Type}{L:List α}{i:Nat}{x:α}(h:L[i]? =some x):L.set i x=L:=by
 apply List.ext_getElem?
 intro j
 rw[List.getElem?_set]
 split
 ·rename_i e
  subst e
  have:=(giS.1 h).1
  rw[h];simp[this]
 ·rfl
theorem ik{α:Type}{L:List α}{i:Int}{x y:α}(h:idx L i=some x):idx (L.set i.toNat y) i=some y:=by
 have h1:=cm h
 unfold idx
 rw[dcT h1.1,cdT,List.getElem?_set,if_pos rfl,if_pos oM]
theorem dJ{α:Type}{L:List α}{i j:Int}{x y:α}(h:idx L i=some x)(hj:0≤j)(hne:i≠j):idx (L.set i.toNat y) j=idx L j:=by
 have h1:=cm h
 unfold idx
 rw[dcT hj,cdT,cdT,List.getElem?_set,if_neg oM]
theorem f60m_eq{S:List (List aa)}{v m:aa}{w:Bool}{o k:Int}{row:List aa}{x:aa}(h1:idx S o=some row)(h2:idx row k=some x)(hx:Ne x)(hv:Ne v):f60m S v m w o k=some (!f65 v x,S.set o.toNat (row.set k.toNat (gU w m x v))):=by
 unfold f60m
 rw[h1,bnS,h2,bnS]
 cases h:f65 v x with
 |true=>
  rw[cdT,kF h,eW (aU h2),eW (aU h1)];rfl
 |false=>
  have hJ:=ff x v hx hv
  rw[cdF,bnS]
  simp only[ap,bnS,h2,f57_1]
  have e:gU w m x v=bif w then W x (J x v) m else J x v:=by unfold gU;rw[h];rfl
  cases w with
  |true=>rw[cdT,f100_eq _ _ _ hx hJ.1,bnS,e];rfl
  |false=>rw[cdF,e];rfl
theorem oH{rg:List aa}{w c:Bool}{S:List (List aa)}{p:(Int×Int)×aa}{row:List aa}{x g:aa}(h1:idx S p.1.1=some row)(h2:idx row p.1.2=some x)(h3:idx rg p.1.1=some g)(hx:Ne x)(hv:Ne p.2):f26_m2 rg w p (c,S)=some (c|| !f65 p.2 x,S.set p.1.1.toNat (row.set p.1.2.toNat (gU w g x p.2))):=by
 unfold f26_m2
 dsimp only
 rw[h1,bnS,h2,bnS,h3,bnS,f60m_eq h1 h2 hx hv,bnS]
 cases f65 p.2 x<;>cases c<;>rfl
def MB:aa:=⟨-2147483648,2147483647⟩
theorem rq:I6 MB:=by unfold I6 MB;dsimp only;omega
def gR(w:Bool)(r v:Rgs)(i:Nat):Rgs:=λq=>if q<i then gU w MB (r q) (v q) else r q
def iv(r v:Rgs):Nat→Bool
 |0=>false
 |i+1=>iv r v i|| !f65 (v i) (r i)
theorem uL(w:Bool)(r v:Rgs)(i:Nat):be (gR w r v i) i (gU w MB (r i) (v i))=gR w r v (i+1):=by
 funext q
 unfold be gR
 by_cases h:q=i
 ·subst h
  rw[Nat.beq_refl,cdT,if_pos oM]
 ·have:Nat.beq q i=false:=by
   cases hb:Nat.beq q i with
   |true=>exact absurd (nbE hb) h
   |false=>rfl
  rw[this,cdF]
  by_cases h2:q<i
  ·rw[if_pos h2,if_pos oM]
  ·rw[if_neg h2,if_neg oM]
theorem vr(w:Bool)(r v:Rgs)(i:Nat):gR w r v i i=r i:=by unfold gR;rw[if_neg oM]
theorem rG(r:Rgs)(i:Nat):be r i (r i)=r:=by
 funext q
 unfold be
 cases hb:Nat.beq q i with
 |true=>rw[nbE hb];rfl
 |false=>rfl
theorem f60e_eq{F:List aj}{v:aa}{w:Bool}{a:Int}{q:Nat}{f:aj}(hq:q<16)(h1:idx F a=some f)(hx:Ne (f.r q))(hv:Ne v):f60e F v (f56 (-2147483648) 2147483647) w a (q:Int)=some (!f65 v (f.r q),F.set a.toNat (aj.mk f.reached (be f.r q (gU w MB (f.r q) v)))):=by
 unfold f60e
 rw[bx _ (jF hq),h1,bnS,Int.toNat_natCast]
 cases h:f65 v (f.r q) with
 |true=>rw[cdT,kF h,rG,eW (aU h1)];rfl
 |false=>
  have hJ:=ff (f.r q) v hx hv
  rw[cdF,bx _ (jF hq),bnS,f57_1,bnS]
  simp only[ap,bnS]
  rw[bx _ (jF hq)]
  have e:gU w MB (f.r q) v=bif w then W (f.r q) (J (f.r q) v) MB else J (f.r q) v:=by unfold gU;rw[h];rfl
  cases w with
  |true=>rw[cdT,f100_eq _ _ _ hx hJ.1,bnS,bx _ (jF hq),e];rfl
  |false=>rw[cdF,bx _ (jF hq),e];rfl
theorem vk(w:Bool)(a:Int)(p:Int×Rgs)(F:List aj)(f:aj)(h1:idx F p.1=some f)(hx:RNe f.r)(hv:RNe p.2)(c:Bool):∀(n i:Nat),i≤16→16<n+i→f26_l4 w a p n (c||iv f.r p.2 i) (i:Int) (F.set p.1.toNat (aj.mk f.reached (gR (w&&decide (p.1≤a)) f.r p.2 i)))=some (c||iv f.r p.2 16,F.set p.1.toNat (aj.mk f.reached (gR (w&&decide (p.1≤a)) f.r p.2 16)))
 |0,i,_,h=>oM
 |n+1,i,hi,h=>by
  rw[f26_l4]
  by_cases hh:i<16
  ·rw[dcT oM,cdT]
   simp only[ap]
   rw[bx _ (jF hh),bx _ (jF hh),wN oM,Int.toNat_natCast]
   have hr:∀_:Bool,(aj.mk f.reached (gR (w&&decide (p.1≤a)) f.r p.2 i)).r i=f.r i:=λ_=>vr _ _ _ _
   have key:=λw':Bool=>f60e_eq (F:=F.set p.1.toNat (aj.mk f.reached (gR (w&&decide (p.1≤a)) f.r p.2 i))) (v:=p.2 i) (w:=w') (a:=p.1) hh (ik h1) (by rw[hr true];exact hx i hh) (hv i hh)
   simp only[vr,List.set_set] at key
   have ih:=vk w a p F f h1 hx hv c n (i+1) oM oM
   rw[iv,←Bool.or_assoc,←uL] at ih
   cases w with
   |true=>
    rw[cdT,key,bnS]
    simp only[Bool.true_and] at ih⊢
    rw[←ih]
    cases f65 (p.2 i) (f.r i)<;>cases c<;>cases iv f.r p.2 i<;>rfl
   |false=>
    rw[cdF,key,bnS]
    simp only[Bool.false_and] at ih⊢
    rw[←ih]
    cases f65 (p.2 i) (f.r i)<;>cases c<;>cases iv f.r p.2 i<;>rfl
  ·have:i=16:=oM
   subst this
   rw[dcF oM,cdF]
def U3(w:Bool)(a:Int)(p:Int×Rgs)(f:aj):aj:=bif f.reached then⟨true,gR (w&&decide (p.1≤a)) f.r p.2 16⟩ else⟨true,p.2⟩
def ch3(p:Int×Rgs)(f:aj):Bool:=bif f.reached then iv f.r p.2 16 else true
theorem uK(w:Bool)(r v:Rgs):gR w r v 0=r:=by funext q;unfold gR;rw[if_neg oM]
theorem mB{w:Bool}{a:Int}{c:Bool}{F:List aj}{p:Int×Rgs}{f:aj}(h1:idx F p.1=some f)(hx:f.reached=true→RNe f.r)(hv:RNe p.2):f26_m3 w a p (c,F)=some (c||ch3 p f,F.set p.1.toNat (U3 w a p f)):=by
 unfold f26_m3 U3 ch3
 dsimp only
 rw[h1,bnS]
 cases h:f.reached with
 |false=>simp
 |true=>
  have:=vk w a p F f h1 (hx h) hv c (Int.toNat (16 - 0)+1) 0 oM sM
  rw[uK,iv,Bool.or_false,eW (aU (by rw[h1])),h] at this
  exact this
end Go.Proofs.YtkbpoeellidgeaaGreatDoor
