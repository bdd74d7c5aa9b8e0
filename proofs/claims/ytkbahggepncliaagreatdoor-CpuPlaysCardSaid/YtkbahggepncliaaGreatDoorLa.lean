/- Part of the proof. -/
import Derived.KernelRfl
import Derived.Test.YtkbahggepncliaaGreatDoorO
set_option linter.unusedVariables false
set_option linter.unusedSimpArgs false
set_option linter.unusedSectionVars false
set_option linter.unnecessarySimpa false
namespace Go.Proofs.YtkbahggepncliaaGreatDoor
open Go Go.Sk
set_option maxRecDepth 100000
theorem f9_ok:f9=some true:=by decide+kernel
set_option maxRecDepth 10000
theorem w64{x:Int}(h1: -9223372036854775808≤x)(h2:x≤9223372036854775807):IntKind.i64.wrap x=x:=by
 rw[IntKind.wrap_i64];omega
theorem ak{α β:Sort _}(k:α)(f:α→β):letk k f=f k:=rfl
theorem aA{α:Type}{L:List α}{i:Nat}(h:i<L.length):idx L (i:Int)=some L[i]:=by
 unfold idx
 rw[dcT (Int.natCast_nonneg i)]
 simp[h]
theorem de{α:Type}{L:List α}{i:Int}(h:¬(0≤i∧i<L.length)):idx L i=none:=by
 unfold idx
 by_cases h0:0≤i
 ·rw[dcT h0,cdT]
  exact List.getElem?_eq_none oM
 ·rw[dcF h0,cdF]
theorem cR{α:Type}{L:List α}{i:Int}{x:α}(h:idx L i=some x):0≤i∧i<L.length:=⟨ae h,cD h⟩
theorem aR{α:Type}{L:List α}{i:Int}(h:0≤i∧i<L.length):∃x,idx L i=some x∧x∈L:=by
 obtain⟨n,rfl⟩:=Int.eq_ofNat_of_zero_le h.1
 exact⟨_,aA (show n<L.length by omega),List.getElem_mem _⟩
theorem cy{α:Type}{L:List α}{i:Int}{x:α}(h:idx L i=some x):x∈L:=List.mem_of_getElem? (bd h)
theorem aM{α:Type}{L:List α}{i:Nat}(h:i<L.length):L.drop i=L[i]::L.drop (i+1):=List.drop_eq_getElem_cons h
theorem bE{α:Type}{c:Bool}(o:Option α)(h:c=true):aI c o=o:=by rw[h];rfl
theorem rJ{κ α:Type}[DecidableEq κ](m:List (κ×α))(k:κ)(v:α)(x:κ):cM (co m k v) x=if k=x then some v else cM m x:=by
 induction m with
 |nil=>simp[co,cM]
 |cons p r ih=>
  unfold co
  by_cases h:p.1=k
  ·rw[if_pos h]
   unfold cM
   by_cases hk:k=x
   ·simp[hk]
   ·simp[hk,h]
  ·rw[if_neg h]
   unfold cM
   rw[ih]
   by_cases hk:p.1=x
   ·have:¬k=x:=λe=>h (by rw[hk,e])
    simp[hk,this]
   ·simp[hk]
def inM{κ:Type}[DecidableEq κ](m:List (κ×Bool))(x:κ):Bool:=Option.getD (cM m x) false
theorem n5{κ:Type}[DecidableEq κ](m:List (κ×Bool))(k x:κ):inM (co m k true) x=(decide (k=x)||inM m x):=by
 unfold inM
 rw[rJ]
 by_cases h:k=x<;>simp[h]
theorem f149_l1_eq(L:List cr)(cb:cr→Option Bool)(p:cr→Bool)(hl:L.length<9223372036854775808):∀(n i:Nat)(z:Int),z=(i:Int)→i≤L.length→L.length<n+i→(∀x∈L.drop i,cb x=some (p x))→∃r,f149_l1 L cb (λ_=>some (-1)) n z=some r∧decide (r≥0)=(L.drop i).any p
 |0,i,z,_,_,h,_=>oM
 |n+1,i,z,hz,hi,h,hp=>by
  subst hz
  rw[f149_l1]
  by_cases hh:i<L.length
  ·rw[aM hh] at hp⊢
   rw[dcT (by omega:(i:Int)<(L.length:Int)),cdT,aA hh,bnS,hp _ List.mem_cons_self,bnS,List.any_cons]
   cases hc:p L[i]
   ·rw[cdF,w64 oM oM,Bool.false_or]
    exact f149_l1_eq L cb p hl n (i+1) _ (by push_cast;rfl) oM oM (λx hx=>hp x (List.mem_cons_of_mem _ hx))
   ·exact⟨_,rfl,by rw[Bool.true_or];exact dcT oM⟩
  ·rw[dcF (by omega:¬(i:Int)<(L.length:Int)),cdF,List.drop_eq_nil_of_le oM]
   exact⟨_,rfl,rfl⟩
theorem f149_eq(L:List cr)(cb:cr→Option Bool)(p:cr→Bool)(hl:L.length<9223372036854775808)(hp:∀x∈L,cb x=some (p x)):∃r,f149 L cb=some r∧decide (r≥0)=L.any p:=by
 unfold f149
 rw[ak]
 exact f149_l1_eq L cb p hl _ 0 0 rfl (Nat.zero_le _) oM hp
theorem f113_eq(L:List cr)(cb:cr→Option Bool)(p:cr→Bool)(hl:L.length<9223372036854775808)(hp:∀x∈L,cb x=some (p x)):f113 L cb=some (L.any p):=by
 obtain⟨r,h1,h2⟩:=f149_eq L cb p hl hp
 unfold f113
 rw[h1,bnS,h2]
theorem f158_l1_eq(L:List Int)(cb:Int→Option Bool)(p:Int→Bool)(hl:L.length<9223372036854775808):∀(n i:Nat)(z:Int),z=(i:Int)→i≤L.length→L.length<n+i→(∀x∈L.drop i,cb x=some (p x))→∃r,f158_l1 L cb (λ_=>some (-1)) n z=some r∧decide (r≥0)=(L.drop i).any p
 |0,i,z,_,_,h,_=>oM
 |n+1,i,z,hz,hi,h,hp=>by
  subst hz
  rw[f158_l1]
  by_cases hh:i<L.length
  ·rw[aM hh] at hp⊢
   rw[dcT (by omega:(i:Int)<(L.length:Int)),cdT,aA hh,bnS,hp _ List.mem_cons_self,bnS,List.any_cons]
   cases hc:p L[i]
   ·rw[cdF,w64 oM oM,Bool.false_or]
    exact f158_l1_eq L cb p hl n (i+1) _ (by push_cast;rfl) oM oM (λx hx=>hp x (List.mem_cons_of_mem _ hx))
   ·exact⟨_,rfl,by rw[Bool.true_or];exact dcT oM⟩
  ·rw[dcF (by omega:¬(i:Int)<(L.length:Int)),cdF,List.drop_eq_nil_of_le oM]
   exact⟨_,rfl,rfl⟩
theorem f158_eq(L:List Int)(cb:Int→Option Bool)(p:Int→Bool)(hl:L.length<9223372036854775808)(hp:∀x∈L,cb x=some (p x)):∃r,f158 L cb=some r∧decide (r≥0)=L.any p:=by
 unfold f158
 rw[ak]
 exact f158_l1_eq L cb p hl _ 0 0 rfl (Nat.zero_le _) oM hp
theorem f128_eq(L:List Int)(cb:Int→Option Bool)(p:Int→Bool)(hl:L.length<9223372036854775808)(hp:∀x∈L,cb x=some (p x)):f128 L cb=some (L.any p):=by
 obtain⟨r,h1,h2⟩:=f158_eq L cb p hl hp
 unfold f128
 rw[h1,bnS,h2]
theorem f123_l1_eq(L:List aB)(cb:aB→Option Bool)(p:aB→Bool)(hl:L.length<9223372036854775808):∀(n i:Nat)(z:Int),z=(i:Int)→i≤L.length→L.length<n+i→(∀x∈L.drop i,cb x=some (p x))→∃r,f123_l1 L cb (λ_=>some (-1)) n z=some r∧decide (r≥0)=(L.drop i).any p
 |0,i,z,_,_,h,_=>oM
 |n+1,i,z,hz,hi,h,hp=>by
  subst hz
  rw[f123_l1]
  by_cases hh:i<L.length
  ·rw[aM hh] at hp⊢
   rw[dcT (by omega:(i:Int)<(L.length:Int)),cdT,aA hh,bnS,hp _ List.mem_cons_self,bnS,List.any_cons]
   cases hc:p L[i]
   ·rw[cdF,w64 oM oM,Bool.false_or]
    exact f123_l1_eq L cb p hl n (i+1) _ (by push_cast;rfl) oM oM (λx hx=>hp x (List.mem_cons_of_mem _ hx))
   ·exact⟨_,rfl,by rw[Bool.true_or];exact dcT oM⟩
  ·rw[dcF (by omega:¬(i:Int)<(L.length:Int)),cdF,List.drop_eq_nil_of_le oM]
   exact⟨_,rfl,rfl⟩
theorem f123_eq(L:List aB)(cb:aB→Option Bool)(p:aB→Bool)(hl:L.length<9223372036854775808)(hp:∀x∈L,cb x=some (p x)):∃r,f123 L cb=some r∧decide (r≥0)=L.any p:=by
 unfold f123
 rw[ak]
 exact f123_l1_eq L cb p hl _ 0 0 rfl (Nat.zero_le _) oM hp
theorem f76_eq(L:List aB)(cb:aB→Option Bool)(p:aB→Bool)(hl:L.length<9223372036854775808)(hp:∀x∈L,cb x=some (p x)):f76 L cb=some (L.any p):=by
 obtain⟨r,h1,h2⟩:=f123_eq L cb p hl hp
 unfold f76
 rw[h1,bnS,h2]
def spot(os:List Obj)(o from_ many:Int):Bool:=match idx os o with
 |some x=>decide (0≤from_)&&decide (from_≤IntKind.i64.wrap (x.size - many))
 |none=>false
theorem f111_eq(t:aj)(o f m:Int):f111 ⟨t⟩ o f m=some (spot t.objs o f m):=by
 unfold f111 spot
 by_cases h:0≤o∧o<t.objs.length
 ·obtain⟨x,hx,_⟩:=aR h
  dsimp only
  rw[hx,dcT (show o≥0 from h.1),dcT h.2]
  by_cases hf:0≤f
  ·rw[dcT (show f≥0 from hf)];rfl
  ·rw[dcF (show¬f≥0 from hf)];rfl
 ·dsimp only
  rw[de h]
  have:(decide (o≥0)&&decide (o<(t.objs.length:Int)))=false:=by
   rw[Bool.and_eq_false_iff]
   simp only[decide_eq_false_iff_not]
   omega
  rw[this];rfl
theorem fg{os:List Obj}{o f m:Int}(h:spot os o f m=true):∃x,idx os o=some x∧0≤f∧f≤IntKind.i64.wrap (x.size - m):=by
 unfold spot at h
 cases hx:idx os o with
 |none=>rw[hx] at h;cases h
 |some x=>
  rw[hx] at h
  simp only[Bool.and_eq_true,decide_eq_true_eq] at h
  exact⟨x,rfl,h⟩
def fits(o:Obj)(v:Int):Bool:=bif o.ptr then decide (v=0)||o.set_.any (λn=>f129 n v) else decide (v≥o.lo)&&decide (v≤o.hi)
theorem f79_eq(o:Obj)(v:Int)(hl:o.set_.length<9223372036854775808):f79 o v=some (fits o v):=by
 unfold f79 fits
 cases hp:o.ptr
 ·rfl
 ·rw[cdT,cdT]
  by_cases hv:v=0
  ·rw[dcT hv];rfl
  ·rw[dcF hv,f128_eq _ _ (λn=>f129 n v) hl λ_ _=>rfl];rfl
def aim(os:List Obj)(x:Int):Bool:=match idx os x with
 |some y=>decide (y.size=1)&& !y.ptr
 |none=>false
def fQ(os:List Obj):Int→List Int→Bool
 |_,[]=>true
 |last,x::r=>decide (last<x)&&aim os x&&fQ os x r
def ef(os:List Obj)(o:Obj):Bool:=
 !((decide (o.size<1)||decide (o.size>16384))||decide (o.lo>o.hi))&&bif !o.ptr then decide ((o.set_.length:Int)=0) else fQ os (-1) o.set_&&(decide (o.lo=0)&&decide (o.hi=0))
theorem f110_l1_eq(t:aj)(o:Obj)(r:Option Bool)(hl:o.set_.length<9223372036854775808):∀(n i:Nat)(z last:Int),z=(i:Int)→i≤o.set_.length→o.set_.length<n+i→-1≤last→
  f110_l1 ⟨t⟩ o (λ_=>r) n last z=bif fQ t.objs last (o.set_.drop i) then r else some false
 |0,i,z,last,_,_,h,_=>oM
 |n+1,i,z,last,hz,hi,h,hla=>by
  subst hz
  rw[f110_l1]
  by_cases hh:i<o.set_.length
  ·rw[aM hh,fQ]
   rw[dcT (by omega:(i:Int)<(o.set_.length:Int)),cdT,aA hh,bnS]
   generalize o.set_[i]=x
   dsimp only
   by_cases h1:last<x
   ·rw[dcT h1,dcF (show¬x≤last by omega),Bool.false_or,Bool.true_and]
    unfold aim
    by_cases h2:x<t.objs.length
    ·obtain⟨y,hy,_⟩:=aR (L:=t.objs) (i:=x) oM
     rw[dcF (show¬x≥(t.objs.length:Int) by omega),cdF,hy]
     simp only[bnS]
     by_cases h3:y.size=1
     ·rw[dcT h3]
      cases h4:y.ptr
      ·rw[w64 oM oM]
       exact f110_l1_eq t o r hl n (i+1) _ x (by push_cast;rfl) oM oM oM
      ·rfl
     ·rw[dcF h3];rfl
    ·rw[de oM,dcT (show x≥(t.objs.length:Int) by omega)];rfl
   ·rw[dcF h1,dcT (show x≤last by omega)];rfl
  ·rw[dcF (by omega:¬(i:Int)<(o.set_.length:Int)),cdF,List.drop_eq_nil_of_le oM]
   rfl
theorem f110_eq(t:aj)(o:Obj)(hl:o.set_.length<9223372036854775808):f110 ⟨t⟩ o=some (ef t.objs o):=by
 unfold f110 ef
 cases h1:(decide (o.size<1)||decide (o.size>16384))||decide (o.lo>o.hi)
 ·rw[cdF,ak,Bool.not_false,Bool.true_and]
  cases h2:o.ptr
  ·rfl
  ·rw[Bool.not_true,cdF,cdF,f110_l1_eq t o _ hl _ 0 0 (-1) rfl (Nat.zero_le _) oM oM,List.drop_zero]
   cases fQ t.objs (-1) o.set_<;>rfl
 ·rfl
def nN(n:Int)(L:List Obj):Int:=L.foldl (λn x=>IntKind.i64.wrap (n+x.size)) n
theorem f68_l1_eq(t:aj)(k:Int→Option Bool)(hl:t.objs.length<9223372036854775808)(hs:∀o∈t.objs,o.set_.length<9223372036854775808):∀(n i:Nat)(z a:Int),z=(i:Int)→i≤t.objs.length→t.objs.length<n+i→
  f68_l1 ⟨t⟩ k n a z=bif (t.objs.drop i).all (ef t.objs) then k (nN a (t.objs.drop i)) else some false
 |0,i,z,a,_,_,h=>oM
 |n+1,i,z,a,hz,hi,h=>by
  subst hz
  rw[f68_l1]
  dsimp only
  by_cases hh:i<t.objs.length
  ·rw[aM hh,List.all_cons,dcT (by omega:(i:Int)<(t.objs.length:Int)),cdT,aA hh,bnS,f110_eq t _ (hs _ (List.getElem_mem _)),bnS,w64 (x:=(i:Int)+1) oM oM]
   cases hc:ef t.objs t.objs[i]
   ·rfl
   ·rw[Bool.not_true,cdF,Bool.true_and,f68_l1_eq t k hl hs n (i+1) _ _ (by push_cast;rfl) oM oM]
    rfl
  ·rw[dcF (by omega:¬(i:Int)<(t.objs.length:Int)),cdF,List.drop_eq_nil_of_le oM]
   rfl
def d6(os:List Obj)(x:d3):Bool:=spot os x.o x.slot 1&&(match idx os x.o with|some y=>fits y x.v|none=>false)
def dt(os:List Obj):List ((Int×Int)×Bool)→List d3→Bool
 |_,[]=>true
 |m,x::r=>(!(inM m (x.o,x.slot)))&&d6 os x&&dt os (co m (x.o,x.slot) true) r
theorem f68_l2_eq(t:aj)(r:Option Bool)(hl:t.inits.length<9223372036854775808)(hs:∀o∈t.objs,o.set_.length<9223372036854775808):∀(n i:Nat)(z:Int)(m:List ((Int×Int)×Bool)),z=(i:Int)→i≤t.inits.length→t.inits.length<n+i→
  f68_l2 ⟨t⟩ (λ_=>r) n z m=bif dt t.objs m (t.inits.drop i) then r else some false
 |0,i,z,m,_,_,h=>oM
 |n+1,i,z,m,hz,hi,h=>by
  subst hz
  rw[f68_l2]
  dsimp only
  by_cases hh:i<t.inits.length
  ·rw[aM hh,dt,dcT (by omega:(i:Int)<(t.inits.length:Int)),cdT,aA hh,bnS]
   generalize t.inits[i]=x
   rw[f111_eq,w64 oM oM,f68_l2_eq t r hl hs n (i+1) _ _ (by push_cast;rfl) oM oM]
   show Option.bind (bif inM m (x.o,x.slot) then _ else _) _=_
   cases hm:inM m (x.o,x.slot)
   ·unfold d6
    cases hsp:spot t.objs x.o x.slot 1
    ·rfl
    ·obtain⟨y,hy,_⟩:=fg hsp
     rw[hy]
     simp only[Bool.not_false,Bool.not_true,bnS,cdF,Bool.true_and]
     rw[f79_eq _ _ (hs _ (cy hy))]
     cases fits y x.v<;>rfl
   ·rfl
  ·rw[dcF (by omega:¬(i:Int)<(t.inits.length:Int)),cdF,List.drop_eq_nil_of_le oM]
   rfl
def jK(t:aj):Bool:= !((decide ((t.objs.length:Int)>4096)||decide (t.excs<4))||decide (t.excs>64))&&(t.objs.all (ef t.objs)&&(dt t.objs [] t.inits&&decide (nN 0 t.objs≤65536)))
theorem f68_eq(t:aj)(hl:t.inits.length<9223372036854775808)(hs:∀o∈t.objs,o.set_.length<9223372036854775808):f68 ⟨t⟩=some (jK t):=by
 unfold f68 jK
 dsimp only
 cases h1:(decide ((t.objs.length:Int)>4096)||decide (t.excs<4))||decide (t.excs>64)
 ·have hol:(t.objs.length:Int)≤4096:=by
   simp only[Bool.or_eq_false_iff,decide_eq_false_iff_not] at h1
   omega
  rw[cdF,ak,f68_l1_eq t _ oM hs _ 0 0 0 rfl (Nat.zero_le _) oM,ak,f68_l2_eq t _ hl hs _ 0 0 [] rfl (Nat.zero_le _) oM]
  simp only[List.drop_zero]
  cases t.objs.all (ef t.objs)<;>cases dt t.objs [] t.inits<;>rfl
 ·rfl
def at1(t:aj)(a:Int):Bool:=decide (a≥0)&&decide (a<(t.insns.length:Int))
theorem f112_eq(t:aj)(a:Int):f112 ⟨t⟩ a=at1 t a:=rfl
theorem iC{t:aj}{a:Int}:at1 t a=true↔0≤a∧a<(t.insns.length:Int):=by
 unfold at1;simp only[Bool.and_eq_true,decide_eq_true_eq,ge_iff_le]
def qh(os:List Obj)(x:Int):Bool:=match idx os x with
 |some y=>decide (y.size=1)
 |none=>false
theorem f150_eq(t:aj)(x:Int):f150 x ⟨t⟩=some (!(qh t.objs x)):=by
 unfold f150 qh
 dsimp only
 by_cases h:0≤x∧x<t.objs.length
 ·obtain⟨y,hy,_⟩:=aR h
  rw[hy,dcF (show¬x<0 by omega),dcF (show¬x≥(t.objs.length:Int) by omega)]
  rfl
 ·rw[de h]
  have:(decide (x<0)||decide (x≥(t.objs.length:Int)))=true:=by
   rw[Bool.or_eq_true]
   simp only[decide_eq_true_eq]
   omega
  rw[this];rfl
def eD(os:List Obj)(l:List Int):Bool:=decide ((l.length:Int)≤8)&&l.all (qh os)
theorem qY{α:Type}(p:α→Bool)(L:List α):(!(L.any λx=> !(p x)))=L.all p:=by
 induction L with
 |nil=>rfl
 |cons x L ih=>rw[List.any_cons,List.all_cons,←ih,Bool.not_or,Bool.not_not]
theorem f115_eq(t:aj)(l:List Int):f115 ⟨t⟩ l=some (eD t.objs l):=by
 unfold f115 eD
 by_cases h:(l.length:Int)≤8
 ·rw[dcT h,cdT,f128_eq l _ (λx=> !(qh t.objs x)) oM λx _=>f150_eq t x,bnS,qY]
  rfl
 ·rw[dcF h];rfl
def eV(os:List Obj)(e:cr):Bool:=eD os e.ins&&eD os e.outs
theorem f114_eq(t:aj)(e:cr):f114 e ⟨t⟩=some (!(eV t.objs e)):=by
 unfold f114 eV
 rw[f115_eq,f115_eq]
 cases eD t.objs e.ins<;>cases eD t.objs e.outs<;>rfl
def gv(t:aj)(x:eL):Bool:= !(((((decide (x.prio<0)||decide (x.prio>31))||(!(at1 t x.at_)))||decide (x.deadline<0))||decide (x.deadline>2147483647))||decide ((x.entries.length:Int)>8))&&x.entries.all (eV t.objs)
theorem f69_l1_eq(t:aj)(r:Option Bool)(hl:t.tasks.length<9223372036854775808):∀(n i:Nat)(z:Int),z=(i:Int)→i≤t.tasks.length→t.tasks.length<n+i→
  f69_l1 ⟨t⟩ (λ_=>r) n z=bif (t.tasks.drop i).all (gv t) then r else some false
 |0,i,z,_,_,h=>oM
 |n+1,i,z,hz,hi,h=>by
  subst hz
  rw[f69_l1]
  dsimp only
  by_cases hh:i<t.tasks.length
  ·rw[aM hh,List.all_cons,dcT (by omega:(i:Int)<(t.tasks.length:Int)),cdT,aA hh,bnS,f112_eq]
   unfold gv
   generalize t.tasks[i]=x
   cases hc:((((decide (x.prio<0)||decide (x.prio>31))||(!(at1 t x.at_)))||decide (x.deadline<0))||decide (x.deadline>2147483647))||decide ((x.entries.length:Int)>8)
   ·have he:(x.entries.length:Int)≤8:=by
     simp only[Bool.or_eq_false_iff,decide_eq_false_iff_not] at hc
     omega
    rw[cdF,f113_eq x.entries _ (λe=> !(eV t.objs e)) oM λe _=>f114_eq t e,bnS,←qY (eV t.objs),w64 oM oM,f69_l1_eq t r hl n (i+1) _ (by push_cast;rfl) oM oM]
    cases x.entries.any λe=> !(eV t.objs e)<;>rfl
   ·rfl
  ·rw[dcF (by omega:¬(i:Int)<(t.tasks.length:Int)),cdF,List.drop_eq_nil_of_le oM]
   rfl
def eO(t:aj):Bool:= !(decide ((t.tasks.length:Int)<1)||decide ((t.tasks.length:Int)>32))&&t.tasks.all (gv t)
theorem f69_eq(t:aj):f69 ⟨t⟩=some (eO t):=by
 unfold f69 eO
 dsimp only
 cases h1:decide ((t.tasks.length:Int)<1)||decide ((t.tasks.length:Int)>32)
 ·have hol:(t.tasks.length:Int)≤32:=by
   simp only[Bool.or_eq_false_iff,decide_eq_false_iff_not] at h1
   omega
  rw[cdF,ak,f69_l1_eq t _ oM _ 0 0 rfl (Nat.zero_le _) oM,List.drop_zero]
  cases t.tasks.all (gv t)<;>rfl
 ·rfl
def gb(n:Int):List (Int×Bool)→List Int→Bool
 |_,[]=>true
 |m,x::r=>(!((decide (x<1)||decide (x≥n))||inM m x))&&gb n (co m x true) r
theorem f70_l2_eq(t:aj)(l:List Int)(r:Option Bool)(hl:l.length<9223372036854775808):∀(n i:Nat)(z:Int)(m:List (Int×Bool)),z=(i:Int)→i≤l.length→l.length<n+i→
  f70_l2 ⟨t⟩ l (λ_=>r) n z m=bif gb t.tasks.length m (l.drop i) then r else some false
 |0,i,z,m,_,_,h=>oM
 |n+1,i,z,m,hz,hi,h=>by
  subst hz
  rw[f70_l2]
  dsimp only
  by_cases hh:i<l.length
  ·rw[aM hh,gb,dcT (by omega:(i:Int)<(l.length:Int)),cdT,aA hh,bnS,w64 oM oM,f70_l2_eq t l r hl n (i+1) _ _ (by push_cast;rfl) oM oM]
   show(bif (_||inM m l[i]) then _ else _)=_
   cases (decide (l[i]<1)||decide (l[i]≥(t.tasks.length:Int)))||inM m l[i]<;>rfl
  ·rw[dcF (by omega:¬(i:Int)<(l.length:Int)),cdF,List.drop_eq_nil_of_le oM]
   rfl
def kO(t:aj)(l:List Int):Bool:=gb t.tasks.length [] l&& !(decide ((l.length:Int)>32))
theorem f70_l1_eq(t:aj)(r:Option Bool)(hl:t.lists.length<9223372036854775808)(hs:∀l∈t.lists,l.length<9223372036854775808):∀(n i:Nat)(z:Int),z=(i:Int)→i≤t.lists.length→t.lists.length<n+i→
  f70_l1 ⟨t⟩ (λ_=>r) n z=bif (t.lists.drop i).all (kO t) then r else some false
 |0,i,z,_,_,h=>oM
 |n+1,i,z,hz,hi,h=>by
  subst hz
  rw[f70_l1]
  dsimp only
  by_cases hh:i<t.lists.length
  ·rw[aM hh,List.all_cons,dcT (by omega:(i:Int)<(t.lists.length:Int)),cdT,ak,aA hh,bnS,ak]
   have hx:=hs _ (List.getElem_mem hh)
   generalize t.lists[i]=x at hx
   unfold kO
   rw[f70_l2_eq t x _ hx _ 0 0 [] rfl (Nat.zero_le _) oM,w64 oM oM,f70_l1_eq t r hl hs n (i+1) _ (by push_cast;rfl) oM oM,List.drop_zero]
   cases gb t.tasks.length [] x<;>cases decide ((x.length:Int)>32)<;>rfl
  ·rw[dcF (by omega:¬(i:Int)<(t.lists.length:Int)),cdF,List.drop_eq_nil_of_le oM]
   rfl
def jl(t:aj):Bool:= !(decide ((t.lists.length:Int)>4096))&&t.lists.all (kO t)
theorem f70_eq(t:aj)(hs:∀l∈t.lists,l.length<9223372036854775808):f70 ⟨t⟩=some (jl t):=by
 unfold f70 jl
 dsimp only
 cases h1:decide ((t.lists.length:Int)>4096)
 ·have hol:(t.lists.length:Int)≤4096:=by
   simp only[decide_eq_false_iff_not] at h1
   omega
  rw[cdF,ak,f70_l1_eq t _ oM hs _ 0 0 rfl (Nat.zero_le _) oM,List.drop_zero]
  cases t.lists.all (kO t)<;>rfl
 ·rfl
def gV(t:aj)(obj:Int)(a:ju):Bool:=
 at1 t a.at_&&(decide (a.guard= -1)||spot t.objs obj a.guard 1)&&
 bif decide (a.kind=1) then(decide (a.entry≥0)&&decide (a.entry<8))&&decide (a.time=0)
 else bif decide (a.kind=2)||decide (a.kind=3) then decide (a.entry=0)&&spot t.objs obj a.time 1
 else decide (a.kind=4)&&decide ((IntKind.i64.wrap (BitVec.ofInt IntKind.i64.bits a.entry|||BitVec.ofInt IntKind.i64.bits a.time).toNat)=0)
theorem f155_eq(t:aj)(n o:Int):f155 n ⟨t⟩ o=some (spot t.objs o n 1):=by
 unfold f155
 rw[f111_eq];rfl
theorem f119_eq(t:aj)(o:Int)(a:ju):f119 ⟨t⟩ o a=some (gV t o a):=by
 unfold f119 gV
 rw[f112_eq,f155_eq,f155_eq]
 simp only[ak,bnS]
 cases at1 t a.at_
 ·rfl
 ·cases decide (a.guard= -1)
  ·cases spot t.objs o a.guard 1
   ·rfl
   ·cases decide (a.kind=1)
    ·cases decide (a.kind=2)<;>cases decide (a.kind=3)<;>cases decide (a.entry=0)<;>rfl
    ·rfl
  ·cases decide (a.kind=1)
   ·cases decide (a.kind=2)<;>cases decide (a.kind=3)<;>cases decide (a.entry=0)<;>rfl
   ·rfl
theorem f72_l2_eq(t:aj)(x:dJ)(k:Int→Option Bool)(a b:Option Bool)(ha:∀i:Int,0≤i→k i=a)(hl:x.alts.length<9223372036854775808):∀(n i:Nat)(z:Int),z=(i:Int)→i≤x.alts.length→x.alts.length<n+i→
  f72_l2 ⟨t⟩ x k (λ_=>b) n z=bif (x.alts.drop i).all (gV t x.obj) then b else a
 |0,i,z,_,_,h=>oM
 |n+1,i,z,hz,hi,h=>by
  subst hz
  rw[f72_l2]
  by_cases hh:i<x.alts.length
  ·rw[aM hh,List.all_cons,dcT (by omega:(i:Int)<(x.alts.length:Int)),cdT,aA hh,bnS,ak,f119_eq,bnS]
   cases gV t x.obj x.alts[i]
   ·exact ha _ oM
   ·dsimp only
    rw[Bool.not_true,cdF,w64 oM oM,f72_l2_eq t x k a b ha hl n (i+1) _ (by push_cast;rfl) oM oM,Bool.true_and]
  ·rw[dcF (by omega:¬(i:Int)<(x.alts.length:Int)),cdF,List.drop_eq_nil_of_le oM]
   rfl
def jE(t:aj)(x:dJ):Bool:= !((((decide ((x.alts.length:Int)<1)||decide ((x.alts.length:Int)>16))||decide (x.obj<0))||decide (x.obj≥(t.objs.length:Int)))||((!decide (x.else_= -1))&&(!(at1 t x.else_))))&&x.alts.all (gV t x.obj)
theorem f72_l1_eq(t:aj)(r:Option Bool)(hl:t.selects.length<9223372036854775808):∀(n i:Nat)(z:Int),z=(i:Int)→i≤t.selects.length→t.selects.length<n+i→
  f72_l1 ⟨t⟩ (λ_=>r) n z=bif (t.selects.drop i).all (jE t) then r else some false
 |0,i,z,_,_,h=>oM
 |n+1,i,z,hz,hi,h=>by
  subst hz
  rw[f72_l1]
  dsimp only
  by_cases hh:i<t.selects.length
  ·rw[aM hh,List.all_cons,dcT (by omega:(i:Int)<(t.selects.length:Int)),cdT,aA hh,bnS,f112_eq]
   generalize t.selects[i]=x
   unfold jE
   cases hc:(((decide ((x.alts.length:Int)<1)||decide ((x.alts.length:Int)>16))||decide (x.obj<0))||decide (x.obj≥(t.objs.length:Int)))||((!decide (x.else_= -1))&&(!(at1 t x.else_)))
   ·have he:(x.alts.length:Int)≤16:=by
     simp only[Bool.or_eq_false_iff,decide_eq_false_iff_not] at hc
     omega
    simp only[ak]
    rw[cdF,f72_l2_eq t x _ (some false) _ (λi h=>by rw[dcT (show i≥0 from h)];rfl) oM _ 0 0 rfl (Nat.zero_le _) oM,List.drop_zero,w64 oM oM,f72_l1_eq t r hl n (i+1) _ (by push_cast;rfl) oM oM]
    cases x.alts.all (gV t x.obj)<;>rfl
   ·rfl
  ·rw[dcF (by omega:¬(i:Int)<(t.selects.length:Int)),cdF,List.drop_eq_nil_of_le oM]
   rfl
def lR(t:aj):Bool:= !(decide ((t.selects.length:Int)>1024))&&t.selects.all (jE t)
theorem f72_eq(t:aj):f72 ⟨t⟩=some (lR t):=by
 unfold f72 lR
 dsimp only
 cases h1:decide ((t.selects.length:Int)>1024)
 ·have hol:(t.selects.length:Int)≤1024:=by
   simp only[decide_eq_false_iff_not] at h1
   omega
  rw[cdF,ak,f72_l1_eq t _ oM _ 0 0 rfl (Nat.zero_le _) oM,List.drop_zero]
  cases t.selects.all (jE t)<;>rfl
 ·rfl
def jk(h g:aG):Bool:= !((!(decide (g.from_≥h.from_)&&decide (g.to≤h.to)))&&decide ((if h.from_>g.from_ then h.from_ else g.from_)<(if h.to<g.to then h.to else g.to)))
theorem oO{α:Type}(L:List α)(i:Nat):cC L 0 (i:Int)=L.take i:=by simp[cC]
theorem f73_l2_eq(t:aj)(j:Nat)(h0:aG)(r:Option Bool)(hj:j≤t.handlers.length)(hl:t.handlers.length<9223372036854775808):∀(n i:Nat)(z:Int),z=(i:Int)→i≤j→j<n+i→
  f73_l2 ⟨t⟩ (j:Int) (λ_ _ _ _=>r) h0 n z=bif ((t.handlers.take j).drop i).all (jk h0) then r else some false
 |0,i,z,_,_,h=>oM
 |n+1,i,z,hz,hi,h=>by
  subst hz
  have hL:(t.handlers.take j).length=j:=by rw[List.length_take];omega
  rw[f73_l2]
  dsimp only
  rw[oO]
  by_cases hh:i<(t.handlers.take j).length
  ·rw[aM hh,List.all_cons,dcT (by omega:(i:Int)<((t.handlers.take j).length:Int)),cdT,aA hh,bnS,w64 oM oM,f73_l2_eq t j h0 r hj hl n (i+1) _ (by push_cast;rfl) oM oM]
   generalize(t.handlers.take j)[i]=g
   unfold jk
   cases (!(decide (g.from_≥h0.from_)&&decide (g.to≤h0.to)))&&decide ((if h0.from_>g.from_ then h0.from_ else g.from_)<(if h0.to<g.to then h0.to else g.to))<;>rfl
  ·rw[dcF (by omega:¬(i:Int)<((t.handlers.take j).length:Int)),cdF,List.drop_eq_nil_of_le oM]
   rfl
def gE(t:aj)(x:aG):Bool:=((((decide (x.from_<0))||(decide (x.from_≥x.to)))||(decide (x.to>(t.insns.length:Int))))||(!(at1 t x.at_)))||(f120 x x.at_)
def gD(t:aj):List aG→List aG→Bool
 |_,[]=>true
 |P,x::r=>(!(gE t x))&&P.all (jk x)&&gD t (P++ [x]) r
theorem f73_l1_eq(t:aj)(r:Option Bool)(hl:t.handlers.length<9223372036854775808):∀(n i:Nat)(z:Int),z=(i:Int)→i≤t.handlers.length→t.handlers.length<n+i→
  f73_l1 ⟨t⟩ (λ_=>r) n z=bif gD t (t.handlers.take i) (t.handlers.drop i) then r else some false
 |0,i,z,_,_,h=>oM
 |n+1,i,z,hz,hi,h=>by
  subst hz
  rw[f73_l1]
  dsimp only
  by_cases hh:i<t.handlers.length
  ·have hL:(t.handlers.take i).length=i:=by rw[List.length_take];omega
   rw[aM hh,gD,←List.take_succ_eq_append_getElem hh,dcT (by omega:(i:Int)<(t.handlers.length:Int)),cdT,ak,aA hh,bnS,f112_eq,bE _ (by simp[dN];omega),oO,w64 oM oM,f73_l2_eq t i _ _ oM hl _ 0 0 rfl (Nat.zero_le _) oM,f73_l1_eq t r hl n (i+1) _ (by push_cast;rfl) oM oM,List.drop_zero]
   generalize t.handlers[i]=x
   show(bif gE t x then _ else _)=_
   cases gE t x<;>cases (t.handlers.take i).all (jk x)<;>rfl
  ·rw[dcF (by omega:¬(i:Int)<(t.handlers.length:Int)),cdF,List.drop_eq_nil_of_le oM]
   rfl
def kS(t:aj):Bool:= !(decide ((t.handlers.length:Int)>4096))&&gD t [] t.handlers
theorem f73_eq(t:aj):f73 ⟨t⟩=some (kS t):=by
 unfold f73 kS
 dsimp only
 cases h1:decide ((t.handlers.length:Int)>4096)
 ·have hol:(t.handlers.length:Int)≤4096:=by
   simp only[decide_eq_false_iff_not] at h1
   omega
  rw[cdF,ak,f73_l1_eq t _ oM _ 0 0 rfl (Nat.zero_le _) oM,List.drop_zero,List.take_zero]
  cases gD t [] t.handlers<;>rfl
 ·rfl
def tg(t:aj)(x:Loop):Bool:=(!((decide (x.head<0)||decide (x.head>x.back))||(!(at1 t x.back))))&&(match idx t.insns x.back with|some y=>f121 y x.head|none=>false)&& !(decide (x.bound<0)||decide (x.bound>2147483647))
def jL(t:aj):List (Int×Bool)→List Loop→Bool
 |_,[]=>true
 |m,x::r=>(!(inM m x.back))&&tg t x&&jL t (co m x.back true) r
theorem f74_l1_eq(t:aj)(r:Option Bool)(hl:t.loops.length<9223372036854775808):∀(n i:Nat)(z:Int)(m:List (Int×Bool)),z=(i:Int)→i≤t.loops.length→t.loops.length<n+i→
  f74_l1 ⟨t⟩ (λ_=>r) n z m=bif jL t m (t.loops.drop i) then r else some false
 |0,i,z,m,_,_,h=>oM
 |n+1,i,z,m,hz,hi,h=>by
  subst hz
  rw[f74_l1]
  dsimp only
  by_cases hh:i<t.loops.length
  ·rw[aM hh,jL,dcT (by omega:(i:Int)<(t.loops.length:Int)),cdT,aA hh,bnS,f112_eq,w64 oM oM,f74_l1_eq t r hl n (i+1) _ _ (by push_cast;rfl) oM oM]
   generalize t.loops[i]=x
   unfold tg
   show Option.bind (bif (_||inM m x.back) then _ else _) _=_
   cases h1:(decide (x.head<0)||decide (x.head>x.back))||(!(at1 t x.back))
   ·cases inM m x.back
    ·have h2:at1 t x.back=true:=by
      cases h:at1 t x.back
      ·rw[h] at h1;simp at h1
      ·rfl
     obtain⟨y,hy,_⟩:=aR (iC.1 h2)
     rw[hy]
     simp only[bnS,Bool.or_self,cdF,Bool.not_false,Bool.true_and,Bool.or_assoc]
     cases f121 y x.head<;>cases (decide (x.bound<0)||decide (x.bound>2147483647))<;>rfl
    ·rfl
   ·cases inM m x.back<;>rfl
  ·rw[dcF (by omega:¬(i:Int)<(t.loops.length:Int)),cdF,List.drop_eq_nil_of_le oM]
   rfl
def qk(t:aj):Bool:= !(decide ((t.loops.length:Int)>4096))&&jL t [] t.loops
theorem f74_eq(t:aj):f74 ⟨t⟩=some (qk t):=by
 unfold f74 qk
 dsimp only
 cases h1:decide ((t.loops.length:Int)>4096)
 ·have hol:(t.loops.length:Int)≤4096:=by
   simp only[decide_eq_false_iff_not] at h1
   omega
  rw[cdF,ak,f74_l1_eq t _ oM _ 0 0 [] rfl (Nat.zero_le _) oM,List.drop_zero]
  cases jL t [] t.loops<;>rfl
 ·rfl
def chk(t:aj)(a:Int):Bool:=match idx t.insns a with
 |some x=>decide (x.op=27)||decide (x.op=28)
 |none=>false
theorem f122_eq(t:aj)(a:Int):f122 ⟨t⟩ a=some (chk t a):=by
 unfold f122 chk
 rw[f112_eq]
 dsimp only
 cases h:at1 t a
 ·rw[de (λhh=>by rw[iC.2 hh] at h;cases h)];rfl
 ·obtain⟨y,hy,_⟩:=aR (iC.1 h)
  rw[hy]
  dsimp only[bnS,cdT]
  cases decide (y.op=27)<;>rfl
def jS(t:aj):Int→List ff→Bool
 |_,[]=>true
 |last,x::r=>((decide (last<x.at_)&&chk t x.at_)&& !(decide (x.kind<1)||decide (x.kind>5)))&&jS t x.at_ r
theorem f75_l1_eq(t:aj)(r:Option Bool)(hl:t.checks.length<9223372036854775808):∀(n i:Nat)(z last:Int),z=(i:Int)→i≤t.checks.length→t.checks.length<n+i→
  f75_l1 ⟨t⟩ (λ_=>r) n last z=bif jS t last (t.checks.drop i) then r else some false
 |0,i,z,last,_,_,h=>oM
 |n+1,i,z,last,hz,hi,h=>by
  subst hz
  rw[f75_l1]
  dsimp only
  by_cases hh:i<t.checks.length
  ·rw[aM hh,jS,dcT (by omega:(i:Int)<(t.checks.length:Int)),cdT,aA hh,bnS,f122_eq,w64 oM oM,f75_l1_eq t r hl n (i+1) _ _ (by push_cast;rfl) oM oM]
   generalize t.checks[i]=x
   by_cases h1:last<x.at_
   ·rw[dcT h1,dcF (show¬x.at_≤last by omega)]
    cases chk t x.at_<;>cases decide (x.kind<1)<;>cases decide (x.kind>5)<;>rfl
   ·rw[dcF h1,dcT (show x.at_≤last by omega)];rfl
  ·rw[dcF (by omega:¬(i:Int)<(t.checks.length:Int)),cdF,List.drop_eq_nil_of_le oM]
   rfl
theorem f75_eq(t:aj)(hl:t.checks.length<9223372036854775808):f75 ⟨t⟩=some (jS t (-1) t.checks):=by
 unfold f75
 dsimp only
 rw[ak,f75_l1_eq t _ hl _ 0 0 (-1) rfl (Nat.zero_le _) oM,List.drop_zero]
 cases jS t (-1) t.checks<;>rfl
def cu(os:List Obj)(ent:Int)(e:aW):Bool×Int×Int×Int×Int×Int:=
 bif decide (e.kind=1) then(true,0,0,e.n,0,0) else
 bif decide (e.kind=2) then(bif spot os e.o e.off 1&&(match idx os e.o with|some y=> !y.ptr|none=>false) then(true,0,0,0,e.o,e.off) else(false,0,0,0,0,0)) else
 bif decide (e.kind=14) then(decide (e.n≥0)&&decide (e.n<ent),0,0,e.n,0,0) else
 bif decide (e.kind=4) then(true,1,18,0,0,0) else
 bif decide (e.kind=5) then(true,2,(if(if 15<e.op then 15 else e.op)>7 then(if 15<e.op then 15 else e.op) else 7),0,0,0) else
 bif decide (e.kind=6)||decide (e.kind=7) then(true,2,0,0,0,0) else(false,0,0,0,0,0)
def eu(os:List Obj)(ent:Int)(e:aW):Bool:=
 ((((((((!(cu os ent e).1)||(!decide ((List.length e.l:Int)=(cu os ent e).2.1)))||(!decide (e.op=(cu os ent e).2.2.1)))||(!decide (e.n=(cu os ent e).2.2.2.1)))||(!decide (e.o=(cu os ent e).2.2.2.2.1)))||(!decide (e.off=(cu os ent e).2.2.2.2.2)))||(!decide (e.len=0)))||(!decide (e.lo=0)))||(!decide (e.hi=0))
def exL(rec:Int→aW→Bool×Int):List aW→Int→Bool×Int
 |[],l=>(true,l)
 |e::r,l=>bif (rec l e).1 then exL rec r (rec l e).2 else(false,(rec l e).2)
def exF(os:List Obj)(ent:Int):Nat→Int→Int→aW→Bool×Int
 |0,_,left,_=>(false,left)
 |n+1,deep,left,e=>
  bif (decide (IntKind.i64.wrap (left - 1)<0)||decide (deep>64))||eu os ent e then(false,IntKind.i64.wrap (left - 1))
  else exL (exF os ent n (deep+1)) e.l (IntKind.i64.wrap (left - 1))
theorem pX(os:List Obj)(ent:Int)(e:aW):(cu os ent e).2.1≤2:=by
 unfold cu
 cases decide (e.kind=1)<;>cases decide (e.kind=2)<;>cases decide (e.kind=14)<;>cases decide (e.kind=4)<;>cases decide (e.kind=5)<;>cases (decide (e.kind=6)||decide (e.kind=7))<;>simp<;>cases (spot os e.o e.off 1&&(match idx os e.o with|some y=> !y.ptr|none=>false))<;>simp
abbrev Rt:Type:=Bool×(List aB)×(List aG)×(List Loop)×(List dJ)×(List (List Int))×(List Obj)×(List d3)×Int×(List eL)×(List eJ)×(List ff)×Int×Int
abbrev Re:Type:=(List aB)→(List aG)→(List Loop)→(List dJ)→(List (List Int))→(List Obj)→(List d3)→Int→(List eL)→(List eJ)→(List ff)→Int→Int→aW→Int→Option Rt
section
variable(v0:List aB)(v1:List aG)(v2:List Loop)(v3:List dJ)(v4:List (List Int))(v5:List Obj)(v6:List d3)(v7:Int)(v8:List eL)(v9:List eJ)(v10:List ff)(ent:Int)
def nU(z:Bool×Int):Option Rt:=some (z.1,v0,v1,v2,v3,v4,v5,v6,v7,v8,v9,v10,ent,z.2)
theorem f116s_l1_eq(rec:Re)(g:Int→aW→Bool×Int)(e:aW)(deep:Int)
  (hrec:∀l x,rec v0 v1 v2 v3 v4 v5 v6 v7 v8 v9 v10 ent l x (IntKind.i64.wrap (deep+1))=nU v0 v1 v2 v3 v4 v5 v6 v7 v8 v9 v10 ent (g l x))
  (ka:Int→(List aB)→(List aG)→(List Loop)→(List dJ)→(List (List Int))→(List Obj)→(List d3)→Int→(List eL)→(List eJ)→(List ff)→Int→Int→Option Rt)
  (kb:(List aB)→(List aG)→(List Loop)→(List dJ)→(List (List Int))→(List Obj)→(List d3)→Int→(List eL)→(List eJ)→(List ff)→Int→Int→Option Rt)
  (ha:∀(i:Int) l,0≤i→ka i v0 v1 v2 v3 v4 v5 v6 v7 v8 v9 v10 ent l=nU v0 v1 v2 v3 v4 v5 v6 v7 v8 v9 v10 ent (false,l))
  (hb:∀l,kb v0 v1 v2 v3 v4 v5 v6 v7 v8 v9 v10 ent l=nU v0 v1 v2 v3 v4 v5 v6 v7 v8 v9 v10 ent (true,l))
  (hl:e.l.length<9223372036854775808):∀(n i:Nat)(z l:Int),z=(i:Int)→i≤e.l.length→e.l.length<n+i→
  f116s_l1 rec e deep ka kb n z v0 v1 v2 v3 v4 v5 v6 v7 v8 v9 v10 ent l=nU v0 v1 v2 v3 v4 v5 v6 v7 v8 v9 v10 ent (exL g (e.l.drop i) l)
 |0,i,z,l,_,_,h=>oM
 |n+1,i,z,l,hz,hi,h=>by
  subst hz
  rw[f116s_l1]
  by_cases hh:i<e.l.length
  ·rw[aM hh,exL,dcT (by omega:(i:Int)<(e.l.length:Int)),cdT,aA hh,bnS,ak,hrec]
   unfold nU
   dsimp only[bnS]
   cases (g l e.l[i]).1
   ·exact ha _ _ oM
   ·rw[Bool.not_true,cdF,w64 oM oM]
    exact f116s_l1_eq rec g e deep hrec ka kb ha hb hl n (i+1) _ _ (by push_cast;rfl) oM oM
  ·rw[dcF (by omega:¬(i:Int)<(e.l.length:Int)),cdF,List.drop_eq_nil_of_le oM]
   exact hb _
theorem f116s_eq(rec:Re)(g:Int→aW→Bool×Int)(e:aW)(deep left:Int)
  (hrec:deep≤64→∀l x,rec v0 v1 v2 v3 v4 v5 v6 v7 v8 v9 v10 ent l x (IntKind.i64.wrap (deep+1))=nU v0 v1 v2 v3 v4 v5 v6 v7 v8 v9 v10 ent (g l x)):∀z,f116s rec v0 v1 v2 v3 v4 v5 v6 v7 v8 v9 v10 ent left e deep=z→
  z=nU v0 v1 v2 v3 v4 v5 v6 v7 v8 v9 v10 ent (bif (decide (IntKind.i64.wrap (left - 1)<0)||decide (deep>64))||eu v5 ent e then(false,IntKind.i64.wrap (left - 1)) else exL g e.l (IntKind.i64.wrap (left - 1))):=by
 intro z h
 unfold f116s at h
 obtain⟨K,hK,h⟩:=aC h
 have h':K (cu v5 ent e).1 (cu v5 ent e).2.1 (aW.mk e.kind (cu v5 ent e).2.2.1 (cu v5 ent e).2.2.2.1 (cu v5 ent e).2.2.2.2.1 (cu v5 ent e).2.2.2.2.2 0 0 0 []) (cu v5 ent e).2.2.1 (cu v5 ent e).2.2.2.1 (cu v5 ent e).2.2.2.2.1 (cu v5 ent e).2.2.2.2.2=z:=by
  rw[←h,ak]
  unfold cu
  cases decide (e.kind=1)
  ·cases decide (e.kind=2)
   ·cases decide (e.kind=14)
    ·cases decide (e.kind=4)
     ·cases decide (e.kind=5)
      ·cases decide (e.kind=6)<;>cases decide (e.kind=7)<;>rfl
      ·rfl
     ·rfl
    ·cases decide (e.n≥0)<;>rfl
   ·rw[f111_eq]
    dsimp only[bnS,cdT,cdF]
    cases hs:spot v5 e.o e.off 1
    ·rfl
    ·obtain⟨y,hy,_⟩:=fg hs
     rw[hy]
     dsimp only[bnS,cdT,cdF]
     cases y.ptr<;>rfl
  ·rfl
 clear h
 rw[hK] at h'
 dsimp only at h'
 have hc:=pX v5 ent e
 have e1:(((((((((((decide (IntKind.i64.wrap (left - 1)<0))||(decide (deep>64)))||(!(cu v5 ent e).1))||(!decide ((List.length e.l:Int)=(cu v5 ent e).2.1)))||(!decide (e.op=(cu v5 ent e).2.2.1)))||(!decide (e.n=(cu v5 ent e).2.2.2.1)))||(!decide (e.o=(cu v5 ent e).2.2.2.2.1)))||(!decide (e.off=(cu v5 ent e).2.2.2.2.2)))||(!decide (e.len=0)))||(!decide (e.lo=0)))||(!decide (e.hi=0)))=((decide (IntKind.i64.wrap (left - 1)<0)||decide (deep>64))||eu v5 ent e):=by
  unfold eu
  simp only[Bool.or_assoc]
 rw[e1] at h'
 cases hbad:(decide (IntKind.i64.wrap (left - 1)<0)||decide (deep>64))||eu v5 ent e
 ·rw[hbad,cdF] at h'
  have hd:deep≤64:=by
   simp only[Bool.or_eq_false_iff,decide_eq_false_iff_not] at hbad
   omega
  have hlen:e.l.length≤2:=by
   simp only[Bool.or_eq_false_iff] at hbad
   have:=hbad.2
   unfold eu at this
   simp only[Bool.or_eq_false_iff,Bool.not_eq_false',decide_eq_true_eq] at this
   have:=this.1.1.1.1.1.1.1.2
   omega
  simp only[ak] at h'
  rw[f116s_l1_eq v0 v1 v2 v3 v4 v5 v6 v7 v8 v9 v10 ent rec g e deep (hrec hd) _ _ (λi l h0=>by rw[dcT (show i≥0 from h0)];rfl) (λl=>rfl) oM _ 0 0 _ rfl (Nat.zero_le _) oM,List.drop_zero] at h'
  rw[←h',cdF]
 ·rw[hbad,cdT] at h'
  rw[←h',cdT]
  rfl
theorem f116_eq:∀(n:Nat)(deep left:Int)(e:aW),1≤deep→deep≤65→66<n+deep→f116 n v0 v1 v2 v3 v4 v5 v6 v7 v8 v9 v10 ent left e deep=nU v0 v1 v2 v3 v4 v5 v6 v7 v8 v9 v10 ent (exF v5 ent n deep left e)
 |0,deep,left,e,h0,h1,h2=>oM
 |n+1,deep,left,e,h0,h1,h2=>by
  rw[f116,exF]
  exact f116s_eq v0 v1 v2 v3 v4 v5 v6 v7 v8 v9 v10 ent (f116 n) (exF v5 ent n (deep+1)) e deep left (λhd l x=>by
   rw[w64 oM oM]
   exact f116_eq n (deep+1) l x oM oM oM) _ rfl
end
def mu(t:aj)(ent:Int)(e:aW):Bool:=(exF t.objs ent 66 1 256 e).1
theorem f71_l2_eq(t:aj)(x:eJ)(r:Option Bool)(hl:x.barriers.length<9223372036854775808):∀(n i:Nat)(z:Int),z=(i:Int)→i≤x.barriers.length→x.barriers.length<n+i→
  f71_l2 ⟨t⟩ (λ_ _=>r) x n z=bif (x.barriers.drop i).all (mu t x.barriers.length) then r else some false
 |0,i,z,_,_,h=>oM
 |n+1,i,z,hz,hi,h=>by
  subst hz
  rw[f71_l2]
  dsimp only
  by_cases hh:i<x.barriers.length
  ·rw[aM hh,List.all_cons,dcT (by omega:(i:Int)<(x.barriers.length:Int)),cdT,aA hh,bnS,f116_eq _ _ _ _ _ _ _ _ _ _ _ _ 66 1 256 _ oM oM oM,w64 oM oM,f71_l2_eq t x r hl n (i+1) _ (by push_cast;rfl) oM oM]
   unfold nU mu
   dsimp only[bnS]
   cases (exF t.objs x.barriers.length 66 1 256 x.barriers[i]).1<;>rfl
  ·rw[dcF (by omega:¬(i:Int)<(x.barriers.length:Int)),cdF,List.drop_eq_nil_of_le oM]
   rfl
def g'(t:aj)(x:eJ):Bool:= !((decide (x.ceiling<0)||decide (x.ceiling>31))||decide ((x.barriers.length:Int)>8))&&x.barriers.all (mu t x.barriers.length)
theorem f71_l1_eq(t:aj)(r:Option Bool)(hl:t.prots.length<9223372036854775808):∀(n i:Nat)(z:Int),z=(i:Int)→i≤t.prots.length→t.prots.length<n+i→
  f71_l1 ⟨t⟩ (λ_=>r) n z=bif (t.prots.drop i).all (g' t) then r else some false
 |0,i,z,_,_,h=>oM
 |n+1,i,z,hz,hi,h=>by
  subst hz
  rw[f71_l1]
  dsimp only
  by_cases hh:i<t.prots.length
  ·rw[aM hh,List.all_cons,dcT (by omega:(i:Int)<(t.prots.length:Int)),cdT,ak,aA hh,bnS]
   generalize t.prots[i]=x
   unfold g'
   cases hc:(decide (x.ceiling<0)||decide (x.ceiling>31))||decide ((x.barriers.length:Int)>8)
   ·have he:(x.barriers.length:Int)≤8:=by
     simp only[Bool.or_eq_false_iff,decide_eq_false_iff_not] at hc
     omega
    rw[cdF,f71_l2_eq t x _ oM _ 0 0 rfl (Nat.zero_le _) oM,w64 oM oM,f71_l1_eq t r hl n (i+1) _ (by push_cast;rfl) oM oM,List.drop_zero]
    cases x.barriers.all (mu t x.barriers.length)<;>rfl
   ·rfl
  ·rw[dcF (by omega:¬(i:Int)<(t.prots.length:Int)),cdF,List.drop_eq_nil_of_le oM]
   rfl
def jh(t:aj):Bool:=t.prots.all (g' t)&&decide ((t.prots.length:Int)≤32)
theorem f71_eq(t:aj)(hl:t.prots.length<9223372036854775808):f71 ⟨t⟩=some (jh t):=by
 unfold f71 jh
 dsimp only
 rw[ak,f71_l1_eq t _ hl _ 0 0 rfl (Nat.zero_le _) oM,List.drop_zero]
 cases t.prots.all (g' t)<;>rfl
def prs(o:Int):Option (List ByteArray):=(f156 o).bind λr=>f176 r.1.fields
def ch(s:ByteArray):Int×Int:=((fY s 0).getD 0,(fY s 1).getD 0)
def jo(o:Int):List (Int×Int):=((prs o).getD []).map ch
theorem wa:∀k,k<57→(match prs ((k:Nat)+1:Int) with|some l=>Nat.blt l.length 100&&l.all λs=>(fY s 0).isSome&&(fY s 1).isSome|none=>false)=true:=by decide+kernel
theorem f156_ok:∀k,k<57→(match f156 ((k:Nat)+1:Int) with|some r=>r.2|none=>false)=true:=by decide+kernel
theorem f156_eq{o:Int}(h1:1≤o)(h2:o≤57):∃r,f156 o=some (r,true):=by
 obtain⟨k,rfl⟩:∃k:Nat,o=(k:Int)+1:=⟨(o - 1).toNat,oM⟩
 have:=f156_ok k oM
 cases h:f156 ((k:Int)+1) with
 |none=>rw[h] at this;cases this
 |some r=>rw[h] at this;exact⟨r.1,by dsimp only at this;rw[←this]⟩
theorem wb{o:Int}(h1:1≤o)(h2:o≤57):∃l,prs o=some l∧l.length<100∧∀s∈l,(∃c,fY s 0=some c)∧∃c,fY s 1=some c:=by
 obtain⟨k,rfl⟩:∃k:Nat,o=(k:Int)+1:=⟨(o - 1).toNat,oM⟩
 have:=wa k oM
 cases h:prs ((k:Int)+1) with
 |none=>rw[h] at this;cases this
 |some l=>
  rw[h] at this
  rw[Bool.and_eq_true] at this
  refine⟨l,rfl,by simpa using this.1,λs hs=>?_⟩
  have:=List.all_eq_true.1 this.2 s hs
  rw[Bool.and_eq_true] at this
  exact⟨Option.isSome_iff_exists.1 this.1,Option.isSome_iff_exists.1 this.2⟩
def rng(w v:Int):Bool:= !(decide (v<(f179 w).1)||decide (v>(f179 w).2))
def fl:List (Int×Int)→Int→Int→Int→Int→Int→Int→Bool
 |[],d,a,b,n,m,to=>(decide (d=0))&&((decide (a=0))&&((decide (b=0))&&((decide (n=0))&&((decide (m=0))&&((decide (to=0))&&true)))))
 |(c,w)::r,d,a,b,n,m,to=>
  bif decide (c=68) then rng w d&&fl r 0 a b n m to else
  bif decide (c=65) then rng w a&&fl r d 0 b n m to else
  bif decide (c=66) then rng w b&&fl r d a 0 n m to else
  bif decide (c=78) then rng w n&&fl r d a b 0 m to else
  bif decide (c=77) then rng w m&&fl r d a b n 0 to else rng w to&&fl r d a b n m 0
theorem f124_l1_eq(k1 k2 k3 k4 k5 k6:Int→Int→Int→Int→Int→Int→ByteArray→ByteArray→Int→Int→Int→Int→Option Bool)
  (h1:∀a b c d e f g h i j k l,k1 a b c d e f g h i j k l=some false)(h2:∀a b c d e f g h i j k l,k2 a b c d e f g h i j k l=some false)(h3:∀a b c d e f g h i j k l,k3 a b c d e f g h i j k l=some false)
  (h4:∀a b c d e f g h i j k l,k4 a b c d e f g h i j k l=some false)(h5:∀a b c d e f g h i j k l,k5 a b c d e f g h i j k l=some false)(h6:∀a b c d e f g h i j k l,k6 a b c d e f g h i j k l=some false)
  (k7:Int→Int→Int→Int→Int→Int→ByteArray→ByteArray→Option Bool)(h7:∀d a b n m to x y,k7 d a b n m to x y=some (fl [] d a b n m to))(r:is×Bool)(L:List ByteArray)(hL:∀s∈L,(∃c,fY s 0=some c)∧∃c,fY s 1=some c)(hl:L.length<9223372036854775808):
  ∀(n i:Nat)(z d a b vn m to:Int),z=(i:Int)→i≤L.length→L.length<n+i→f124_l1 k1 k2 k3 k4 k5 k6 k7 r L n z d a b vn m to=some (fl ((L.drop i).map ch) d a b vn m to)
 |0,i,z,_,_,_,_,_,_,_,_,h=>oM
 |n+1,i,z,d,a,b,vn,m,to,hz,hi,h=>by
  subst hz
  rw[f124_l1]
  by_cases hh:i<L.length
  ·obtain⟨⟨c,hc⟩,w,hw⟩:=hL _ (List.getElem_mem hh)
   have ih:=λd a b vn m to=>f124_l1_eq k1 k2 k3 k4 k5 k6 h1 h2 h3 h4 h5 h6 k7 h7 r L hL hl n (i+1) _ d a b vn m to (by push_cast;rfl) oM oM
   have he:ch L[i]=(c,w):=by unfold ch;rw[hc,hw];rfl
   rw[aM hh,List.map_cons,he,fl,dcT (by omega:(i:Int)<(L.length:Int)),cdT,aA hh,bnS,hc,bnS,w64 oM oM]
   simp only[ak,hw,bnS,h1,h2,h3,h4,h5,h6,ih]
   unfold rng
   cases decide (c=68)
   ·cases decide (c=65)
    ·cases decide (c=66)
     ·cases decide (c=78)
      ·cases decide (c=77)
       ·cases (decide (to<(f179 w).1)||decide (to>(f179 w).2))<;>rfl
       ·cases (decide (m<(f179 w).1)||decide (m>(f179 w).2))<;>rfl
      ·cases (decide (vn<(f179 w).1)||decide (vn>(f179 w).2))<;>rfl
     ·cases (decide (b<(f179 w).1)||decide (b>(f179 w).2))<;>rfl
    ·cases (decide (a<(f179 w).1)||decide (a>(f179 w).2))<;>rfl
   ·cases (decide (d<(f179 w).1)||decide (d>(f179 w).2))<;>rfl
  ·rw[dcF (by omega:¬(i:Int)<(L.length:Int)),cdF,List.drop_eq_nil_of_le oM,h7]
   rfl
def eP(x:aB):Bool:= !((!(decide (1≤x.op)&&decide (x.op≤57)))||(decide (x.op=27)&&decide (x.n>x.m)))&&(!((decide (x.op=37)&&decide ((IntKind.u8.wrap x.n)=6))&&(!decide (x.m=0)))&&fl (jo x.op) x.d x.a x.b x.n x.m x.to)
theorem f124_eq(x:aB)(ho:0≤x.op∧x.op≤255):f124 x=some (eP x):=by
 unfold f124 eP
 by_cases h:1≤x.op∧x.op≤57
 ·obtain⟨r,hr⟩:=f156_eq h.1 h.2
  obtain⟨l,hl,hlen,hg⟩:=wb h.1 h.2
  have hf:f176 r.fields=some l:=by
   unfold prs at hl
   rw[hr,bnS] at hl
   exact hl
  rw[hr,bnS,dcT h.1,dcT h.2]
  dsimp only
  rw[Bool.not_true,Bool.false_or,Bool.and_true,Bool.not_true,Bool.false_or]
  cases decide (x.op=27)&&decide (x.n>x.m)
  ·rw[cdF]
   cases (decide (x.op=37)&&decide ((IntKind.u8.wrap x.n)=6))&&(!decide (x.m=0))
   ·rw[cdF]
    simp only[ak]
    rw[bnS,hf,bnS]
    refine(f124_l1_eq _ _ _ _ _ _ (λ_ _ _ _ _ _ _ _ _ _ _ _=>rfl) (λ_ _ _ _ _ _ _ _ _ _ _ _=>rfl) (λ_ _ _ _ _ _ _ _ _ _ _ _=>rfl) (λ_ _ _ _ _ _ _ _ _ _ _ _=>rfl) (λ_ _ _ _ _ _ _ _ _ _ _ _=>rfl) (λ_ _ _ _ _ _ _ _ _ _ _ _=>rfl) _ (by intro d a b n m to _ _;rfl) _ l hg oM _ 0 0 _ _ _ _ _ _ rfl (Nat.zero_le _) oM).trans ?_
    rw[List.drop_zero]
    unfold jo
    rw[hl]
    rfl
   ·rfl
  ·rfl
 ·have e:f156 x.op=some ((is.mk ByteArray.empty ByteArray.empty),false):=by
   unfold f156
   have:(decide (x.op<1)||decide ((IntKind.i64.wrap x.op)>57))=true:=by
    rw[w64 oM oM,Bool.or_eq_true]
    simp only[decide_eq_true_eq]
    omega
   rw[this];rfl
  have e2:(decide (1≤x.op)&&decide (x.op≤57))=false:=by
   rw[Bool.and_eq_false_iff]
   simp only[decide_eq_false_iff_not]
   omega
  rw[e,e2];rfl
def ms(t:aj)(task n:Int):Int×Bool:=match idx t.tasks task with
 |some x=>(match idx x.entries n with
  |some e=>((IntKind.i64.wrap ((IntKind.i64.wrap ((List.length e.ins:Int)+(List.length e.outs:Int)))+1)),true)
  |none=>(0,false))
 |none=>(0,false)
theorem f126_eq(t:aj)(a n:Int):f126 ⟨t⟩ a n=some (ms t a n):=by
 unfold f126 ms
 dsimp only
 by_cases h:0≤a∧a<t.tasks.length
 ·obtain⟨y,hy,_⟩:=aR h
  rw[hy,dcF (show¬a<0 by omega),dcF (show¬a≥(t.tasks.length:Int) by omega)]
  dsimp only[bnS]
  by_cases h2:0≤n∧n<y.entries.length
  ·obtain⟨e,he,_⟩:=aR h2
   rw[he,dcF (show¬n<0 by omega),dcF (show¬n≥(y.entries.length:Int) by omega)]
   rfl
  ·rw[de h2]
   by_cases h3:n<0
   ·rw[dcT h3];rfl
   ·rw[dcT (show n≥(y.entries.length:Int) by omega),dcF h3];rfl
 ·rw[de h]
  have:(decide (a<0)||decide (a≥(t.tasks.length:Int)))=true:=by
   rw[Bool.or_eq_true]
   simp only[decide_eq_true_eq]
   omega
  rw[this];rfl
def rP(t:aj)(p n:Int):Bool:=match idx t.prots p with
 |some x=>decide (0≤n)&&decide (n<(x.barriers.length:Int))
 |none=>false
theorem f127_eq(t:aj)(p n:Int):f127 ⟨t⟩ p n=some (rP t p n):=by
 unfold f127 rP
 dsimp only
 by_cases h:0≤p∧p<t.prots.length
 ·obtain⟨y,hy,_⟩:=aR h
  rw[hy,dcT (show p≥0 by omega),dcT h.2]
  by_cases h3:0≤n
  ·rw[dcT (show n≥0 from h3)];rfl
  ·rw[dcF (show¬n≥0 from h3)];rfl
 ·rw[de h]
  have:(decide (p≥0)&&decide (p<(t.prots.length:Int)))=false:=by
   rw[Bool.and_eq_false_iff]
   simp only[decide_eq_false_iff_not]
   omega
  rw[this];rfl
def jtOk(t:aj)(x:aB):Bool:=decide ((IntKind.i64.wrap (x.to+x.m))≤(t.insns.length:Int))&&(cC t.insns x.to (IntKind.i64.wrap (x.to+x.m))).all (λy=>decide (y.op=29))
def gJ(t:aj)(x:aB):Bool:=eP x&&
 bif decide (x.op=3)||decide (x.op=4) then spot t.objs x.n x.m 1 else
 bif decide (x.op=5)||decide (x.op=6) then spot t.objs x.n x.m x.b else
 bif decide (x.op=29)||(decide (x.op=30)||decide (x.op=31)) then at1 t x.to else
 bif decide (x.op=32) then jtOk t x else
 bif decide (x.op=33) then decide (x.n≤t.excs) else
 bif decide (x.op=44)||(decide (x.op=45)||(decide (x.op=46)||decide (x.op=56))) then decide (x.n<(t.lists.length:Int)) else
 bif decide (x.op=50) then decide (x.n<(t.selects.length:Int)) else
 bif decide (x.op=49) then(ms t x.a x.b).2&&spot t.objs x.n 0 (ms t x.a x.b).1 else
 bif decide (x.op=52) then(ms t x.a x.b).2&&decide (x.to<(t.insns.length:Int)) else
 bif decide (x.op=53)||decide (x.op=55) then decide (x.n<(t.prots.length:Int)) else
 bif decide (x.op=54) then rP t x.n x.m else
 bif decide (x.op=43) then decide (x.m<0)||rP t x.m x.n else true
theorem wA:jo 32=[(65,114),(78,118),(77,108),(84,115)]:=by decide+kernel
theorem qm{x:aB}(h:eP x=true)(ho:x.op=32):0≤x.to∧x.to≤65535∧1≤x.m∧x.m≤65536:=by
 unfold eP at h
 rw[ho,wA] at h
 simp only[Bool.and_eq_true] at h
 have:=h.2.2
 simp only[fl,rng,f179] at this
 simp at this
 omega
theorem uO(L:List aB)(hl:L.length<9223372036854775808):f76 L (λz0=>some (f125 z0))=some (!(L.all λy=>decide (y.op=29))):=by
 rw[f76_eq L _ f125 hl λ_ _=>rfl]
 congr 1
 induction L with
 |nil=>rfl
 |cons x L ih=>rw[List.any_cons,List.all_cons,ih (by simp at hl;omega),Bool.not_and];rfl
theorem f78_eq(t:aj)(x:aB)(ho:0≤x.op∧x.op≤255)(hl:t.insns.length≤65536):f78 ⟨t⟩ x=some (gJ t x):=by
 unfold f78 gJ
 rw[f124_eq x ho,bnS]
 cases hm:eP x
 ·rfl
 ·simp only[ak,f111_eq,f112_eq,f126_eq,f127_eq,bnS]
  rw[Bool.not_true,cdF,Bool.true_and]
  cases decide (x.op=3)
  ·cases decide (x.op=4)
   ·cases decide (x.op=5)
    ·cases decide (x.op=6)
     ·cases decide (x.op=29)
      ·cases decide (x.op=30)
       ·cases decide (x.op=31)
        ·cases h32:decide (x.op=32)
         ·cases decide (x.op=33)
          ·cases decide (x.op=44)
           ·cases decide (x.op=45)
            ·cases decide (x.op=46)
             ·cases decide (x.op=56)
              ·cases decide (x.op=50)
               ·cases decide (x.op=49)
                ·cases decide (x.op=52)
                 ·cases decide (x.op=53)
                  ·cases decide (x.op=55)
                   ·cases decide (x.op=54)
                    ·cases decide (x.op=43)
                     ·rfl
                     ·cases decide (x.m<0)<;>rfl
                    ·rfl
                   ·rfl
                  ·rfl
                 ·rfl
                ·cases (ms t x.a x.b).2<;>rfl
               ·rfl
              ·rfl
             ·rfl
            ·rfl
           ·rfl
          ·rfl
         ·obtain⟨a1,a2,a3,a4⟩:=qm hm (of_decide_eq_true h32)
          unfold jtOk
          dsimp only[cdT,cdF,Bool.or_false]
          by_cases h4:(IntKind.i64.wrap (x.to+x.m))≤(t.insns.length:Int)
          ·rw[dcT h4,cdT]
           rw[w64 oM oM] at h4
           rw[w64 oM oM,bE _ (by simp[dN];omega),uO _ (by simp[cC];omega),bnS,Bool.not_not]
           rfl
          ·rw[dcF h4];rfl
        ·rfl
       ·rfl
      ·rfl
     ·rfl
    ·rfl
   ·rfl
  ·rfl
structure Sz(t:aj):Prop where
 ops:∀x∈t.insns,0≤x.op∧x.op≤255
 inits:t.inits.length<9223372036854775808
 sets:∀o∈t.objs,o.set_.length<9223372036854775808
 lists:∀l∈t.lists,l.length<9223372036854775808
 prots:t.prots.length<9223372036854775808
 checks:t.checks.length<9223372036854775808
theorem f37_l1_eq(t:aj)(k:Int→Option Bool)(a b:Option Bool)(ha:∀i:Int,0≤i→k i=a)(ho:∀x∈t.insns,0≤x.op∧x.op≤255)(hl:t.insns.length≤65536):∀(n i:Nat)(z:Int),z=(i:Int)→i≤t.insns.length→t.insns.length<n+i→
  f37_l1 t k (λ_=>b) n z=bif (t.insns.drop i).all (gJ t) then b else a
 |0,i,z,_,_,h=>oM
 |n+1,i,z,hz,hi,h=>by
  subst hz
  rw[f37_l1]
  by_cases hh:i<t.insns.length
  ·rw[aM hh,List.all_cons,dcT (by omega:(i:Int)<(t.insns.length:Int)),cdT,aA hh,bnS,ak,f78_eq t _ (ho _ (List.getElem_mem hh)) hl,bnS]
   cases gJ t t.insns[i]
   ·exact ha _ oM
   ·dsimp only
    rw[Bool.not_true,cdF,w64 oM oM,f37_l1_eq t k a b ha ho hl n (i+1) _ (by push_cast;rfl) oM oM,Bool.true_and]
  ·rw[dcF (by omega:¬(i:Int)<(t.insns.length:Int)),cdF,List.drop_eq_nil_of_le oM]
   rfl
def nY(x:aB):Bool:=decide (x.op=29)||(decide (x.op=33)||(decide (x.op=34)||decide (x.op=57)))
def qU(t:aj):Bool:=match idx t.insns ((t.insns.length:Int) - 1) with
 |some x=>nY x
 |none=>false
def MayB(t:aj):Bool:= !(decide ((t.insns.length:Int)<1)||decide ((t.insns.length:Int)>65536))&&(qU t&&(jK t&&(eO t&&(jl t&&(jh t&&(lR t&&(kS t&&(qk t&&(jS t (-1) t.checks&&t.insns.all (gJ t))))))))))
theorem f37_eq(t:aj)(h:Sz t):f37 t=some (MayB t):=by
 unfold f37 MayB
 cases h1:decide ((t.insns.length:Int)<1)||decide ((t.insns.length:Int)>65536)
 ·have hol:(1:Int)≤t.insns.length∧(t.insns.length:Int)≤65536:=by
   simp only[Bool.or_eq_false_iff,decide_eq_false_iff_not] at h1
   omega
  obtain⟨x,hx,_⟩:=aR (L:=t.insns) (i:=(t.insns.length:Int) - 1) oM
  unfold qU
  rw[cdF,w64 oM oM,hx,bnS]
  simp only[ak]
  rw[f68_eq t h.inits h.sets,f69_eq,f70_eq t h.lists,f71_eq t h.prots,f72_eq,f73_eq,f74_eq,f75_eq t h.checks]
  rw[f37_l1_eq t _ (some false) _ (λi h0=>by rw[dcT (show i≥0 from h0)];rfl) h.ops oM _ 0 0 rfl (Nat.zero_le _) oM,List.drop_zero]
  unfold nY
  generalize jK t=b1,eO t=b2,jl t=b3,jh t=b4,lR t=b5,kS t=b6,qk t=b7,jS t (-1) t.checks=b8,t.insns.all (gJ t)=b9
  have key:∀b:Bool,(bif b then(some b1).bind λr69=>bif !r69 then some false else(some b2).bind λr70=>bif !r70 then some false else(some b3).bind λr71=>bif !r71 then some false else(some b4).bind λr72=>bif !r72 then some false else(some b5).bind λr73=>bif !r73 then some false else(some b6).bind λr74=>bif !r74 then some false else(some b7).bind λr75=>bif !r75 then some false else(some b8).bind λr76=>bif !r76 then some false else bif b9 then some (!decide ((-1:Int)≥0)) else some false else some false)=some (b&&(b1&&(b2&&(b3&&(b4&&(b5&&(b6&&(b7&&(b8&&b9))))))))):=by
   intro b
   cases b
   ·rfl
   ·cases b1
    ·rfl
    ·cases b2
     ·rfl
     ·cases b3
      ·rfl
      ·cases b4
       ·rfl
       ·cases b5
        ·rfl
        ·cases b6
         ·rfl
         ·cases b7
          ·rfl
          ·cases b8
           ·rfl
           ·cases b9<;>rfl
  cases decide (x.op=29)
  ·cases decide (x.op=33)
   ·cases decide (x.op=34)
    ·exact key _
    ·exact key true
   ·exact key true
  ·exact key true
 ·rfl
theorem bC{α:Type}{b:Nat}{L M:List α}(hb:b≤64)(h:L.length+M.length≤2000000000000):cq b L M=true:=by
 unfold cq
 have:maxLen=9223372036854775807:=by decide
 rw[this,dcT oM,Bool.true_and]
 refine dcT ?_
 have:(L.length+M.length)*b≤2000000000000*64:=Nat.mul_le_mul h hb
 omega
theorem ma{b:Nat}{n:Int}(hb:b≤64)(h0:0≤n)(h:n≤2000000000000):m9 b n=true:=by
 unfold m9
 have:maxLen=9223372036854775807:=by decide
 rw[this,dcT h0,dcT (show n≤((9223372036854775807:Nat):Int) by omega),Bool.true_and,Bool.and_true]
 refine dcT ?_
 have:(b:Int)*n≤64*2000000000000:=Int.mul_le_mul oM h h0 oM
 omega
structure VT(t:aj):Prop where
 sz:Sz t
 n:1≤t.insns.length∧t.insns.length≤65536
 objs:t.objs.length≤4096
 excs:4≤t.excs∧t.excs≤64
 obj:∀o∈t.objs,ef t.objs o=true
 inits:dt t.objs [] t.inits=true
 hdls:t.handlers.length≤4096
 fits:∀x∈t.insns,gJ t x=true
 last:qU t=true
 hok:gD t [] t.handlers=true
theorem lj{t:aj}(hs:Sz t)(h:MayB t=true):VT t:=by
 unfold MayB jK kS at h
 simp only[Bool.and_eq_true,Bool.not_eq_true',Bool.or_eq_false_iff,decide_eq_false_iff_not,List.all_eq_true] at h
 exact⟨hs,oM,oM,oM,h.2.2.1.2.1,h.2.2.1.2.2.1,oM,h.2.2.2.2.2.2.2.2.2.2,h.2.1,h.2.2.2.2.2.2.2.1.2⟩
theorem ng{os:List Obj}:∀(L:List Int)(last:Int),fQ os last L=true→-1≤last→last<os.length→(L.length:Int)+last+1≤os.length
 |[],last,_,h1,h2=>by simp;omega
 |x::r,last,h,h1,h2=>by
  simp only[fQ,Bool.and_eq_true,decide_eq_true_eq] at h
  have hx:x<os.length:=by
   have:=h.1.2
   unfold aim at this
   cases hi:idx os x with
   |none=>rw[hi] at this;cases this
   |some y=>exact(cR hi).2
  have:=ng r x h.2 oM hx
  simp;omega
theorem uA{os:List Obj}{o:Obj}(h:ef os o=true)(hn:0<os.length):1≤o.size∧o.size≤16384∧o.lo≤o.hi∧(o.set_.length:Int)≤os.length:=by
 unfold ef at h
 simp only[Bool.and_eq_true,Bool.not_eq_true',Bool.or_eq_false_iff,decide_eq_false_iff_not] at h
 refine⟨oM,oM,oM,?_⟩
 cases hp:o.ptr
 ·have h2:=h.2
  rw[hp] at h2
  simp only[Bool.not_false,cdT,decide_eq_true_eq] at h2
  omega
 ·have h2:=h.2
  rw[hp] at h2
  simp only[Bool.not_true,cdF,Bool.and_eq_true] at h2
  have:=ng _ _ h2.1 oM oM
  omega
theorem VT.o{t:aj}(h:VT t){o:Obj}(ho:o∈t.objs):1≤o.size∧o.size≤16384∧o.lo≤o.hi∧(o.set_.length:Int)≤4096:=by
 have h2:=h.objs
 have:=uA (h.obj o ho) (List.length_pos_of_mem ho)
 omega
theorem ii{os:List Obj}:∀(L:List d3)(m:List ((Int×Int)×Bool)),dt os m L=true→∀x∈L,d6 os x=true
 |[],_,_,x,hx=>by cases hx
 |y::r,m,h,x,hx=>by
  simp only[dt,Bool.and_eq_true] at h
  rcases List.mem_cons.1 hx with e|e
  ·rw[e];exact h.1.2
  ·exact ii r _ h.2 x e
def rM(o:Obj):Int:=bif fits o 0 then 0 else o.lo
def bX(o:Obj):List Int:=List.replicate o.size.toNat (rM o)
theorem f41_l2_eq(j:Nat)(k:List (List Int)→Option (List (List Int)))(o:Obj)(x:List Int)(hl:x.length<9223372036854775808):∀(n i:Nat)(z:Int)(S:List (List Int)),z=(i:Int)→i≤x.length→x.length<n+i→j<S.length→
  S[j]? =some (List.replicate i o.lo++List.replicate (x.length - i) 0)→f41_l2 (j:Int) k o x n z S=k (S.set j (List.replicate x.length o.lo))
 |0,i,z,S,_,_,h,_,_=>oM
 |n+1,i,z,S,hz,hi,h,hj,hS=>by
  subst hz
  rw[f41_l2]
  have hget:S[j]=List.replicate i o.lo++List.replicate (x.length - i) 0:=by
   rw[geG hj] at hS
   exact inS hS
  by_cases hh:i<x.length
  ·rw[dcT (by omega:(i:Int)<(x.length:Int)),cdT,aA hj,bnS,hget]
   rw[aA (show i<(List.replicate i o.lo++List.replicate (x.length - i) (0:Int)).length by simp;omega),bnS,w64 oM oM]
   simp only[Int.toNat_natCast]
   rw[f41_l2_eq j k o x hl n (i+1) _ _ (by push_cast;rfl) oM oM (by simpa using hj)]
   ·rw[List.set_set]
   ·rw[List.getElem?_set_self hj]
    congr 1
    rw[List.set_append_right _ _ sM,List.length_replicate,Nat.sub_self]
    obtain⟨q,hq⟩:∃q,x.length - i=q+1:=⟨x.length - i - 1,oM⟩
    rw[hq,List.replicate_succ,List.set_cons_zero,List.replicate_succ',List.append_assoc,show x.length - (i+1)=q by omega]
    rfl
  ·rw[dcF (by omega:¬(i:Int)<(x.length:Int)),cdF]
   have:i=x.length:=oM
   subst this
   congr 1
   rw[Nat.sub_self,List.replicate_zero,List.append_nil] at hget
   rw[←hget,List.set_getElem_self]
theorem f41_l1_eq(t:aj)(hv:VT t)(k:List (List Int)→Option (List (List Int))):∀(n i:Nat)(z:Int),z=(i:Int)→i≤t.objs.length→t.objs.length<n+i→
  f41_l1 t k n z ((t.objs.take i).map bX++List.replicate (t.objs.length - i) [])=k (t.objs.map bX)
 |0,i,z,_,_,h=>oM
 |n+1,i,z,hz,hi,h=>by
  subst hz
  have ho:=hv.objs
  rw[f41_l1]
  by_cases hh:i<t.objs.length
  ·rw[dcT (by omega:(i:Int)<(t.objs.length:Int)),cdT]
   simp only[ak]
   rw[aA hh,bnS]
   have hm:=hv.o (List.getElem_mem hh)
   have hL:((t.objs.take i).map bX++List.replicate (t.objs.length - i) ([]:List Int)).length=t.objs.length:=by simp;omega
   have hstep:∀v,v=bX t.objs[i]→(((t.objs.take i).map bX++List.replicate (t.objs.length - i) ([]:List Int)).set i v)=(t.objs.take (i+1)).map bX++List.replicate (t.objs.length - (i+1)) []:=λv hv=>by
    rw[List.set_append_right _ _ (by simp;omega)]
    have e:i - ((t.objs.take i).map bX).length=0:=by simp;omega
    obtain⟨q,hq⟩:∃q,t.objs.length - i=q+1:=⟨t.objs.length - i - 1,oM⟩
    rw[e,hq,List.replicate_succ,List.set_cons_zero,List.take_succ_eq_append_getElem hh,List.map_append,List.append_assoc,show t.objs.length - (i+1)=q by omega,hv]
    rfl
   rw[bE _ (ma oM oM oM),aA oM,bnS,f79_eq _ _ (hv.sz.sets _ (List.getElem_mem hh)),bnS,w64 oM oM]
   simp only[Int.toNat_natCast]
   generalize hS:(t.objs.take i).map bX++List.replicate (t.objs.length - i) ([]:List Int)=S at*
   cases hf:fits t.objs[i] 0
   ·rw[Bool.not_false,cdT,aA (show i<(S.set i (List.replicate t.objs[i].size.toNat (0:Int))).length by simp;omega),bnS]
    rw[List.getElem_set_self]
    rw[f41_l2_eq i _ _ _ (by simp;omega) _ 0 0 _ rfl (Nat.zero_le _) oM (by simp;omega) (by rw[List.getElem?_set_self oM];simp),List.set_set,List.length_replicate]
    rw[hstep _ (by unfold bX rM;rw[hf];rfl)]
    exact f41_l1_eq t hv k n (i+1) _ (by push_cast;rfl) oM oM
   ·rw[Bool.not_true,cdF,hstep _ (by unfold bX rM;rw[hf];rfl)]
    exact f41_l1_eq t hv k n (i+1) _ (by push_cast;rfl) oM oM
  ·rw[dcF (by omega:¬(i:Int)<(t.objs.length:Int)),cdF]
   have:i=t.objs.length:=oM
   subst this
   rw[Nat.sub_self,List.replicate_zero,List.append_nil,List.take_length]
def ld(S:List (List Int))(x:d3):List (List Int):=S.set x.o.toNat (((S[x.o.toNat]?).getD []).set x.slot.toNat x.v)
def Shape(os:List Obj)(S:List (List Int)):Prop:=S.map (λr=>(r.length:Int))=os.map (·.size)
theorem Shape.len{os:List Obj}{S:List (List Int)}(h:Shape os S):S.length=os.length:=by
 have:=congrArg List.length h
 simpa using this
theorem Shape.at{os:List Obj}{S:List (List Int)}(h:Shape os S){i:Nat}{o:Obj}(ho:os[i]? =some o):∃r,S[i]? =some r∧(r.length:Int)=o.size:=by
 have h2:=congrArg (λL=>L[i]?) h
 simp only[List.getElem?_map,ho,Option.map_some] at h2
 cases hr:S[i]? with
 |none=>rw[hr] at h2;simp at h2
 |some r=>rw[hr] at h2;exact⟨r,rfl,by simpa using h2⟩
theorem Shape.set{os:List Obj}{S:List (List Int)}(h:Shape os S)(i j:Nat)(v:Int):Shape os (S.set i (((S[i]?).getD []).set j v)):=by
 unfold Shape at*
 rw[←h,List.map_set]
 refine List.ext_getElem? λk=>?_
 rw[List.getElem?_set]
 by_cases hk:i=k
 ·subst hk
  by_cases hl:i<S.length
  ·simp[hl]
  ·simp[hl]
 ·rw[if_neg hk]
theorem f41_l3_eq(t:aj)(hv:VT t)(k:List (List Int)→Option (List (List Int))):∀(n i:Nat)(z:Int)(S:List (List Int)),z=(i:Int)→i≤t.inits.length→t.inits.length<n+i→Shape t.objs S→
  f41_l3 t k n z S=k ((t.inits.drop i).foldl ld S)
 |0,i,z,S,_,_,h,_=>oM
 |n+1,i,z,S,hz,hi,h,hS=>by
  subst hz
  have hl:=hv.sz.inits
  rw[f41_l3]
  by_cases hh:i<t.inits.length
  ·have hx:=ii _ _ hv.inits _ (List.getElem_mem hh)
   rw[aM hh,List.foldl_cons,dcT (by omega:(i:Int)<(t.inits.length:Int)),cdT,aA hh,bnS]
   generalize t.inits[i]=x at hx
   unfold d6 at hx
   rw[Bool.and_eq_true] at hx
   obtain⟨o,ho,h0,h1⟩:=fg hx.1
   have hob:=hv.o (cy ho)
   obtain⟨r,hr,hrl⟩:=hS.at (bd ho)
   have e:idx S x.o=some r:=by
    unfold idx
    rw[dcT (cR ho).1]
    exact hr
   rw[w64 oM oM] at h1
   obtain⟨v,hv',_⟩:=aR (L:=r) (i:=x.slot) oM
   rw[e,bnS,hv',bnS,w64 oM oM]
   have e2:ld S x=S.set x.o.toNat (r.set x.slot.toNat x.v):=by unfold ld;rw[hr];rfl
   rw[←e2]
   exact f41_l3_eq t hv k n (i+1) _ _ (by push_cast;rfl) oM oM (hS.set _ _ _)
  ·rw[dcF (by omega:¬(i:Int)<(t.inits.length:Int)),cdF,List.drop_eq_nil_of_le oM]
   rfl
def store(t:aj):List (List Int):=t.inits.foldl ld (t.objs.map bX)
theorem kg{t:aj}(hv:VT t):Shape t.objs (t.objs.map bX):=by
 unfold Shape
 rw[List.map_map]
 refine List.map_congr_left λo ho=>?_
 have:=hv.o ho
 simp[bX];omega
theorem lQ{os:List Obj}:∀(L:List d3)(S:List (List Int)),Shape os S→Shape os (L.foldl ld S)
 |[],_,h=>h
 |_x::r,_,h=>lQ r _ (h.set _ _ _)
theorem kL{t:aj}(hv:VT t):Shape t.objs (store t):=lQ _ _ (kg hv)
theorem f41_eq(t:aj)(hs:Sz t)(h:MayB t=true):f41 t=some (store t):=by
 have hv:=lj hs h
 have ho:=hv.objs
 unfold f41
 rw[f37_eq t hs,h,bnS,Bool.not_true,cdF,bE _ (ma oM oM oM)]
 simp only[ak]
 have e:=f41_l1_eq t hv (λl74=>f41_l3 t (λl105=>some l105) (Int.toNat ((List.length t.inits:Int) - 0)+1) 0 l74) (Int.toNat ((List.length t.objs:Int) - 0)+1) 0 0 rfl (Nat.zero_le _) oM
 rw[List.take_zero,List.map_nil,List.nil_append,Nat.sub_zero] at e
 rw[Int.toNat_natCast,e,f41_l3_eq t hv _ _ 0 0 _ rfl (Nat.zero_le _) oM (kg hv),List.drop_zero]
 rfl
def Sat{α:Type}(o:Option α)(Q:α→Prop):Prop:=∃r,o=some r∧Q r
theorem Sat.pure{α:Type}{a:α}{Q:α→Prop}(h:Q a):Sat (some a) Q:=⟨a,rfl,h⟩
theorem Sat.bind{α β:Type}{o:Option α}{f:α→Option β}{P:α→Prop}{Q:β→Prop}(h:Sat o P)(hf:∀x,P x→Sat (f x) Q):Sat (o.bind f) Q:=by
 obtain⟨r,h1,h2⟩:=h
 rw[h1]
 exact hf r h2
theorem Sat.cond{α:Type}{c:Bool}{a b:Option α}{Q:α→Prop}(h1:c=true→Sat a Q)(h2:c=false→Sat b Q):Sat (bif c then a else b) Q:=by
 cases c
 ·exact h2 rfl
 ·exact h1 rfl
theorem Sat.guard{α:Type}{c:Bool}{a:Option α}{Q:α→Prop}(h1:c=true)(h2:Sat a Q):Sat (aI c a) Q:=by rw[bE _ h1];exact h2
theorem Sat.letk{α κ:Type}{k:κ}{f:κ→Option α}{Q:α→Prop}(P:κ→Prop)(hk:P k)(hf:∀k',P k'→Sat (f k') Q):Sat (letk k f) Q:=hf k hk
theorem Sat.cs{α β:Type}{r:Rs α}{f:Int→Option β}{g:α→Option β}{Q:β→Prop}(h1:∀e,r=Rs.bad e→Sat (f e) Q)(h2:∀z,r=Rs.ok z→Sat (g z) Q):Sat (Rs.cs r f g) Q:=by
 cases r with
 |ok z=>exact h2 z rfl
 |bad e=>exact h1 e rfl
theorem Sat.eq{α:Type}{o:Option α}{a:α}(h:o=some a):Sat o (λx=>x=a):=⟨a,h,rfl⟩
theorem Sat.idx{α:Type}{L:List α}{i:Int}(h:0≤i∧i<L.length):Sat (idx L i) (λx=>idx L i=some x):=by
 obtain⟨x,hx,_⟩:=aR h
 exact⟨x,hx,hx⟩
theorem fl_d:∀(L:List (Int×Int))(d a b n m to:Int),fl L d a b n m to=true→d=0∨∃w,(68,w)∈L∧rng w d=true
 |[],d,a,b,n,m,to,h=>by
  simp only[fl,Bool.and_eq_true,decide_eq_true_eq] at h
  exact .inl oM
 |(c,w)::r,d,a,b,n,m,to,h=>by
  have up:(d=0∨∃w,(68,w)∈r∧rng w d=true)→d=0∨∃w',(68,w')∈(c,w)::r∧rng w' d=true:=λhh=>by
   rcases hh with h|⟨w',h1,h2⟩
   ·exact .inl h
   ·exact .inr ⟨w',List.mem_cons_of_mem _ h1,h2⟩
  rw[fl] at h
  by_cases hq:c=68
  ·subst hq
   refine .inr ⟨w,List.mem_cons_self,?_⟩
   have h':(rng w d&&fl r 0 a b n m to)=true:=h
   rw[Bool.and_eq_true] at h'
   exact h'.1
  ·have e:decide (c=68)=false:=dcF hq
   rw[e] at h
   revert h
   cases decide (c=68)<;>cases decide (c=65)<;>cases decide (c=66)<;>cases decide (c=78)<;>cases decide (c=77)<;>intro h<;>simp only[cdT,cdF,Bool.and_eq_true] at h<;>exact up (fl_d _ _ _ _ _ _ _ h.2)
theorem fl_a:∀(L:List (Int×Int))(d a b n m to:Int),fl L d a b n m to=true→a=0∨∃w,(65,w)∈L∧rng w a=true
 |[],d,a,b,n,m,to,h=>by
  simp only[fl,Bool.and_eq_true,decide_eq_true_eq] at h
  exact .inl oM
 |(c,w)::r,d,a,b,n,m,to,h=>by
  have up:(a=0∨∃w,(65,w)∈r∧rng w a=true)→a=0∨∃w',(65,w')∈(c,w)::r∧rng w' a=true:=λhh=>by
   rcases hh with h|⟨w',h1,h2⟩
   ·exact .inl h
   ·exact .inr ⟨w',List.mem_cons_of_mem _ h1,h2⟩
  rw[fl] at h
  by_cases hq:c=65
  ·subst hq
   refine .inr ⟨w,List.mem_cons_self,?_⟩
   have h':(rng w a&&fl r d 0 b n m to)=true:=h
   rw[Bool.and_eq_true] at h'
   exact h'.1
  ·have e:decide (c=65)=false:=dcF hq
   rw[e] at h
   revert h
   cases decide (c=68)<;>cases decide (c=65)<;>cases decide (c=66)<;>cases decide (c=78)<;>cases decide (c=77)<;>intro h<;>simp only[cdT,cdF,Bool.and_eq_true] at h<;>exact up (fl_a _ _ _ _ _ _ _ h.2)
theorem fl_b:∀(L:List (Int×Int))(d a b n m to:Int),fl L d a b n m to=true→b=0∨∃w,(66,w)∈L∧rng w b=true
 |[],d,a,b,n,m,to,h=>by
  simp only[fl,Bool.and_eq_true,decide_eq_true_eq] at h
  exact .inl oM
 |(c,w)::r,d,a,b,n,m,to,h=>by
  have up:(b=0∨∃w,(66,w)∈r∧rng w b=true)→b=0∨∃w',(66,w')∈(c,w)::r∧rng w' b=true:=λhh=>by
   rcases hh with h|⟨w',h1,h2⟩
   ·exact .inl h
   ·exact .inr ⟨w',List.mem_cons_of_mem _ h1,h2⟩
  rw[fl] at h
  by_cases hq:c=66
  ·subst hq
   refine .inr ⟨w,List.mem_cons_self,?_⟩
   have h':(rng w b&&fl r d a 0 n m to)=true:=h
   rw[Bool.and_eq_true] at h'
   exact h'.1
  ·have e:decide (c=66)=false:=dcF hq
   rw[e] at h
   revert h
   cases decide (c=68)<;>cases decide (c=65)<;>cases decide (c=66)<;>cases decide (c=78)<;>cases decide (c=77)<;>intro h<;>simp only[cdT,cdF,Bool.and_eq_true] at h<;>exact up (fl_b _ _ _ _ _ _ _ h.2)
theorem vU:∀k,k<41→((jo ((k:Nat)+1:Int)).all λp=>(!(decide (p.1=68))||decide (p.2=114))&&((!(decide (p.1=65))||decide (p.2=114))&&(!(decide (p.1=66))||(decide (p.2=114)||(decide (k=4)||decide (k=5))))))=true:=by decide+kernel
theorem sX{v:Int}(h:rng 114 v=true):0≤v∧v≤15:=by
 simp only[rng,f179] at h
 simp at h
 omega
theorem nf{v:Int}(h:0≤v∧v≤15):bK 16 v=true:=by
 obtain⟨n,rfl⟩:=Int.eq_ofNat_of_zero_le h.1
 have:n<16:=oM
 simp[bK,this]
structure Rg(x:aB):Prop where
 o:1≤x.op∧x.op≤41
 d:bK 16 x.d=true
 a:bK 16 x.a=true
 b:x.op≠5→x.op≠6→bK 16 x.b=true
theorem n6{x:aB}(h:eP x=true)(ho:1≤x.op∧x.op≤41):Rg x:=by
 unfold eP at h
 simp only[Bool.and_eq_true] at h
 have hf:=h.2.2
 obtain⟨k,hk⟩:∃k:Nat,x.op=(k:Int)+1:=⟨(x.op - 1).toNat,oM⟩
 have ht:=List.all_eq_true.1 (vU k oM)
 rw[hk] at hf
 refine⟨ho,?_,?_,λh5 h6=>?_⟩
 ·rcases fl_d _ _ _ _ _ _ _ hf with e|⟨w,h1,h2⟩
  ·exact nf oM
  ·have:=ht _ h1
   simp at this
   rw[this] at h2
   exact nf (sX h2)
 ·rcases fl_a _ _ _ _ _ _ _ hf with e|⟨w,h1,h2⟩
  ·exact nf oM
  ·have:=ht _ h1
   simp at this
   rw[this] at h2
   exact nf (sX h2)
 ·rcases fl_b _ _ _ _ _ _ _ hf with e|⟨w,h1,h2⟩
  ·exact nf oM
  ·have:=ht _ h1
   simp at this
   have e:w=114:=oM
   rw[e] at h2
   exact nf (sX h2)
def OKq{α:Type}(Q:α→Prop):Rs α→Prop
 | .bad _=>True
 | .ok z=>Q z
def tk(A:List Act):List Int:=(A.filter λx=>decide (x.kind=2)).map (·.a)
def pt(A:List Act):List Int:=(A.filter λx=>decide (x.kind=1)).map (·.a)
def Quiet(A:List Act):Prop:=tk A=[]∧pt A=[]∧A.length≤1
theorem da:Quiet []:=⟨rfl,rfl,sM⟩
theorem qI{k:Int}(h1:k≠1)(h2:k≠2)(t s a b n:Int):Quiet ([]++ [Act.mk t s k a b n]):=by
 refine⟨?_,?_,sM⟩
 ·simp[tk,h2]
 ·simp[pt,h1]
abbrev TT{α:Type}:Rs α→Prop:=λ_=>True
section
variable(tR:Nat→Int)(tP:Int)(tX:Int)(tD:Int)(mI:List aB)(mH:List aG)(mO:List Obj)(mE:Int)(mN:List Int)(mS:List (List Int))(mU:List Int)
theorem f131_sat(tA:List Act):Sat (f131 tR tP tX tD mI mH mO mE mN mS mU tA) TT:=by
 unfold f131
 exact .cond (λ_=> .pure trivial) (λ_=> .pure trivial)
theorem f59_l1_sat{Q:Rs ((Nat→Int)×Int×Int×Int)→Prop}(c1:Int)(k63:Int→Option (Rs ((Nat→Int)×Int×Int×Int)))(k64:Unit→Option (Rs ((Nat→Int)×Int×Int×Int)))(ha:∀t:Int,t<mH.length→Sat (k63 t) Q)(hb:Sat (k64 ()) Q)(hl:mH.length<9223372036854775808):∀(n i:Nat)(z:Int),z=(i:Int)→i≤mH.length→mH.length<n+i→Sat (f59_l1 tP mH c1 k63 k64 n z) Q
 |0,i,z,_,_,h=>oM
 |n+1,i,z,hz,hi,h=>by
  subst hz
  rw[f59_l1]
  refine .cond (λh1=>?_) (λ_=>hb)
  have hh:i<mH.length:=by have:=of_decide_eq_true h1;omega
  refine .bind (.idx oM) λx _=>?_
  rw[ak]
  refine .cond (λ_=>ha _ oM) λ_=>?_
  rw[w64 oM oM]
  exact f59_l1_sat c1 k63 k64 ha hb hl n (i+1) _ (by push_cast;rfl) oM oM
theorem f59_sat(hl:mH.length≤4096)(tA:List Act)(c1:Int):Sat (f59 tR tP tX tD mI mH mO mE mN mS mU tA c1) TT:=by
 unfold f59
 refine .letk (λk=>∀t:Int,t<mH.length→Sat (k t) TT) (λt ht=>?_) λk63 h63=>?_
 ·refine .cond (λ_=> .pure trivial) λh0=>?_
  refine .bind (.idx (by have:=of_decide_eq_false h0;omega)) λx _=>?_
  refine .letk (λk=>∀t,Sat (k t) TT) (λt=>?_) λk hk=>?_
  ·exact .cond (λ_=> .pure trivial) (λ_=> .pure trivial)
  ·exact .cond (λ_=>hk _) (λ_=>hk _)
 ·rw[ak]
  exact f59_l1_sat tP mH c1 _ _ h63 (h63 _ oM) oM _ 0 0 rfl (Nat.zero_le _) oM
abbrev QA:Rs ((Nat→Int)×Int×Int×Int×(List Act))→Prop:=OKq λz=>Quiet z.2.2.2.2
theorem f56_sat(hl:mH.length≤4096)(n1:Int):Sat (f56 tR tP tX tD mI mH mO mE mN mS mU [] n1) QA:=by
 unfold f56
 refine .bind (f59_sat _ _ _ _ _ _ _ _ _ _ _ hl _ _) λr _=>?_
 refine .cs (λe _=> .pure trivial) λz _=>?_
 refine .guard (bC oM sM) (.pure ?_)
 exact qI dC dC _ _ _ _ _
def Pl(mS:List (List Int))(o k:Int):Prop:=∃x,idx mS o=some x∧∃v,idx x k=some v
theorem qK(o k:Int):Sat (bif (((decide (o<0))||(decide (o≥(List.length mS:Int))))||(decide (k<0))) then some true else(Option.bind (idx mS o) λx58=>some (decide (k≥(List.length x58:Int))))) (λb=>b=false→Pl mS o k):=by
 refine .cond (λ_=> .pure λh=>by cases h) λh=>?_
 simp only[Bool.or_eq_false_iff,decide_eq_false_iff_not] at h
 refine .bind (.idx oM) λx hx=> .pure λh2=>?_
 have h2:=of_decide_eq_false h2
 obtain⟨v,hv,_⟩:=aR (L:=x) (i:=k) oM
 exact⟨x,hx,v,hv⟩
theorem f81_sat(hS:mS.length=mO.length)(tA:List Act)(x:aB)(hx:Rg x):Sat (f81 tR tP tX tD mI mH mO mE mN mS mU tA x) TT:=by
 unfold f81
 refine .letk (λk=>Sat (k ()) TT) (.pure trivial) λk28 h28=>?_
 refine .letk (λk=>∀t o i a b c d e,Pl mS o i→Sat (k t o i a b c d e) TT) (λt o i a b c d e hp=>?_) λk37 h37=>?_
 ·obtain⟨x,h1,v,h2⟩:=hp
  refine .bind (.eq h1) λ_ e1=>?_
  rw[e1]
  refine .bind (.eq h2) λ_ e2=> .guard hx.d (.bind (f131_sat _ _ _ _ _ _ _ _ _ _ _ _) λr _=>?_)
  exact .cs (λ_ _=> .pure trivial) (λ_ _=> .pure trivial)
 ·refine .guard hx.a (.letk (λk=>∀o i,Sat (k o i) TT) (λo i=>?_) λk41 h41=>?_)
  ·rw[ak]
   refine .letk (λk=>Pl mS o i→Sat (k ()) TT) (λhp=>?_) λk56 h56=>?_
   ·obtain⟨x,h1,v,h2⟩:=id hp
    have:=cR h1
    refine .bind (.idx oM) λy _=>h37 _ _ _ _ _ _ _ _ hp
   ·refine .bind (qK mS o i) λb hb=> .cond (λ_=>h28) λh0=>?_
    have hp:=hb h0
    obtain⟨x,h1,v,h2⟩:=id hp
    refine .bind (.eq h1) λ_ e1=>?_
    rw[e1]
    exact .bind (.eq h2) λ_ _=>h56 hp
  ·refine .letk (λk=>∀b,Sat (k b) TT) (λb=>?_) λk43 h43=> .cond (λ_=>h43 _) (λ_=>h43 _)
   refine .cond (λ_=> .cond (λ_=>h28) λ_=>h41 _ _) λ_=>?_
   refine .letk (λk=>∀b,Sat (k b) TT) (λb=>?_) λk49 h49=> .cond (λ_=>h49 _) (λ_=>h49 _)
   exact .cond (λ_=> .cond (λ_=>h28) λ_=>h41 _ _) λ_=>h41 _ _
theorem f104_sat(s:List Int)(v:Int)(hl:s.length<9223372036854775808):∃b,f104 s v=some b:=by
 have key:∀(n i:Nat)(z:Int),z=(i:Int)→i≤s.length→s.length<n+i→∃r,f145_l1 s v (λ_=>some (-1)) n z=some r:=by
  intro n
  induction n with
  |zero=>intro i z _ _ _;omega
  |succ n ih=>
   intro i z hz hi h
   subst hz
   rw[f145_l1]
   by_cases hh:i<s.length
   ·rw[dcT (by omega:(i:Int)<(s.length:Int)),cdT,aA hh,bnS]
    cases decide (v=s[i])
    ·rw[cdF,w64 oM oM]
     exact ih (i+1) _ (by push_cast;rfl) oM oM
    ·exact⟨_,rfl⟩
   ·rw[dcF (by omega:¬(i:Int)<(s.length:Int)),cdF]
    exact⟨_,rfl⟩
 obtain⟨r,hr⟩:=key (Int.toNat ((List.length s:Int) - 0)+1) 0 0 rfl (Nat.zero_le _) oM
 unfold f104 f145
 rw[ak,hr]
 exact⟨_,rfl⟩
theorem f63_sat(o:Obj)(v:Int)(hl:o.set_.length<9223372036854775808):Sat (f63 o v) (λ_=>True):=by
 unfold f63
 refine .cond (λ_=>?_) λ_=> .pure trivial
 refine .bind (P:=λ_=>True) (.cond (λ_=> .pure trivial) λ_=>?_) λb _=> .pure trivial
 obtain⟨b,hb⟩:=f104_sat o.set_ (IntKind.i64.wrap (v - 1)) hl
 exact .bind (.eq hb) λ_ _=> .pure trivial
abbrev QS(n:Nat):Rs ((Nat→Int)×Int×Int×Int×(List (List Int)))→Prop:=OKq λz=>z.2.2.2.2.length=n
theorem f82_sat(hS:mS.length=mO.length)(hO:∀o∈mO,o.set_.length<9223372036854775808)(tA:List Act)(x:aB)(hx:Rg x):Sat (f82 tR tP tX tD mI mH mO mE mN mS mU tA x) (QS mS.length):=by
 unfold f82
 refine .guard hx.d (.letk (λk=>∀v,Sat (k v) (QS mS.length)) (λv46=>?_) λk hk=>?_)
 ·refine .letk (λk=>Sat (k ()) (QS mS.length)) (.pure trivial) λk50 h50=>?_
  refine .letk (λk=>∀t o i a b c d e,t∈mO→Pl mS o i→Sat (k t o i a b c d e) (QS mS.length)) (λt o i a b c d e ht hp=>?_) λk59 h59=>?_
  ·refine .bind (f63_sat t v46 (hO t ht)) λr _=> .cond (λ_=> .pure trivial) λ_=>?_
   refine .bind (f131_sat _ _ _ _ _ _ _ _ _ _ _ _) λr _=> .cs (λ_ _=> .pure trivial) λz _=>?_
   obtain⟨x,h1,v,h2⟩:=hp
   refine .bind (.eq h1) λ_ e1=>?_
   rw[e1]
   refine .bind (.eq h2) λ_ e2=> .pure ?_
   show(List.set _ _ _).length=_
   rw[List.length_set]
  ·refine .guard hx.a (.letk (λk=>∀o i,Sat (k o i) (QS mS.length)) (λo i=>?_) λk41 h41=>?_)
   ·rw[ak]
    refine .letk (λk=>Pl mS o i→Sat (k ()) (QS mS.length)) (λhp=>?_) λk56 h56=>?_
    ·obtain⟨x,h1,v,h2⟩:=id hp
     have:=cR h1
     refine .bind (.idx oM) λy hy=>h59 _ _ _ _ _ _ _ _ (cy hy) hp
    ·refine .bind (qK mS o i) λb hb=> .cond (λ_=>h50) λh0=>?_
     have hp:=hb h0
     obtain⟨x,h1,v,h2⟩:=id hp
     refine .bind (.eq h1) λ_ e1=>?_
     rw[e1]
     exact .bind (.eq h2) λ_ _=>h56 hp
   ·refine .letk (λk=>∀b,Sat (k b) (QS mS.length)) (λb=>?_) λk43 h43=> .cond (λ_=>h43 _) (λ_=>h43 _)
    refine .cond (λ_=> .cond (λ_=>h50) λ_=>h41 _ _) λ_=>?_
    refine .letk (λk=>∀b,Sat (k b) (QS mS.length)) (λb=>?_) λk49 h49=> .cond (λ_=>h49 _) (λ_=>h49 _)
    exact .cond (λ_=> .cond (λ_=>h50) λ_=>h41 _ _) λ_=>h41 _ _
 ·exact .cond (λ_=> .guard hx.a (hk _)) (λ_=>hk _)
theorem f83_sat(tA:List Act)(x:aB)(hx:Rg x):Sat (f83 tR tP tX tD mI mH mO mE mN mS mU tA x) TT:=by
 unfold f83
 refine .guard hx.a (.cond (λ_=> .pure trivial) λ_=>?_)
 refine .letk (λk=>∀b,Sat (k b) TT) (λb=>?_) λk hk=> .cond (λ_=>hk _) (λ_=> .cond (λ_=>hk _) λ_=>hk _)
 exact .cond (λ_=> .pure trivial) λ_=> .bind (f131_sat _ _ _ _ _ _ _ _ _ _ _ _) λr _=> .cs (λ_ _=> .pure trivial) (λ_ _=> .pure trivial)
theorem f84_sat(hl:mH.length≤4096)(x:aB)(hx:Rg x):Sat (f84 tR tP tX tD mI mH mO mE mN mS mU [] x) QA:=by
 unfold f84
 refine .guard hx.a (.cond (λ_=>?_) λ_=>?_)
 ·exact .bind (f56_sat _ _ _ _ _ _ _ _ _ _ _ hl _) λr hr=> .cs (λ_ _=> .pure trivial) (λz hz=> .pure (by rw[hz] at hr;exact hr))
 ·exact .bind (f131_sat _ _ _ _ _ _ _ _ _ _ _ _) λr _=> .cs (λ_ _=> .pure trivial) (λ_ _=> .pure da)
theorem f85_sat(hl:mH.length≤4096)(x:aB)(hx:Rg x):Sat (f85 tR tP tX tD mI mH mO mE mN mS mU [] x) QA:=by
 unfold f85
 refine .guard hx.a (.cond (λ_=>?_) λ_=> .cond (λ_=>?_) λ_=> .cond (λ_=> .pure trivial) λ_=> .cond (λ_=>?_) λ_=>?_)
 ·exact .bind (f56_sat _ _ _ _ _ _ _ _ _ _ _ hl _) λr hr=> .cs (λ_ _=> .pure trivial) (λz hz=> .pure (by rw[hz] at hr;exact hr))
 ·exact .bind (f131_sat _ _ _ _ _ _ _ _ _ _ _ _) λr _=> .cs (λ_ _=> .pure trivial) (λ_ _=> .pure da)
 ·exact .bind (f59_sat _ _ _ _ _ _ _ _ _ _ _ hl _ _) λr _=> .cs (λ_ _=> .pure trivial) (λ_ _=> .pure da)
 ·exact .bind (f56_sat _ _ _ _ _ _ _ _ _ _ _ hl _) λr hr=> .cs (λ_ _=> .pure trivial) (λz hz=> .pure (by rw[hz] at hr;exact hr))
def Io(mN mU:List Int)(N U:List Int)(A:List Act):Prop:=tk A++N=mN∧U=mU++pt A∧A.length≤1
theorem lg{mN mU:List Int}{A:List Act}(h:Quiet A):Io mN mU mN mU A:=⟨by rw[h.1];rfl,by rw[h.2.1,List.append_nil],h.2.2⟩
abbrev QI(mN mU:List Int):Rs ((Nat→Int)×Int×Int×Int×(List Int)×(List Int)×(List Act))→Prop:=OKq λz=>Io mN mU z.2.2.2.2.1 z.2.2.2.2.2.1 z.2.2.2.2.2.2
theorem f86_sat(hl:mH.length≤4096)(x:aB)(hx:Rg x)(hk:x.op=37→IntKind.u8.wrap x.n≠1∧IntKind.u8.wrap x.n≠2)(hU:mU.length≤1000000):Sat (f86 tR tP tX tD mI mH mO mE mN mS mU [] x) (QI mN mU):=by
 unfold f86
 refine .cond (λh37=>?_) λ_=> .cond (λ_=>?_) λ_=> .cond (λh0=>?_) λh0=>?_
 ·refine .bind (f131_sat _ _ _ _ _ _ _ _ _ _ _ _) λr _=> .cs (λ_ _=> .pure trivial) (λz _=>?_)
  refine .letk (λk=>∀c,Sat (k c) (QI mN mU)) (λc=> .guard (bC oM sM) (.pure ?_)) λk hk=> .cond (λ_=>hk _) (λ_=>hk _)
  have:=hk (of_decide_eq_true h37)
  exact lg (qI this.1 this.2 _ _ _ _ _)
 ·refine .guard hx.a (.bind (f131_sat _ _ _ _ _ _ _ _ _ _ _ _) λr _=> .cs (λ_ _=> .pure trivial) λz _=>?_)
  refine .guard (bC oM (by simp;omega)) (.guard (bC oM sM) (.pure ?_))
  exact⟨rfl,rfl,sM⟩
 ·exact .bind (f56_sat _ _ _ _ _ _ _ _ _ _ _ hl _) λr hr=> .cs (λ_ _=> .pure trivial) (λz hz=> .pure (by rw[hz] at hr;exact lg hr))
 ·have h0:=of_decide_eq_false h0
  refine .bind (f131_sat _ _ _ _ _ _ _ _ _ _ _ _) λr _=> .cs (λ_ _=> .pure trivial) (λz _=>?_)
  obtain⟨v,N,rfl⟩:∃v N,mN=v::N:=by
   cases mN with
   |nil=>exact absurd rfl h0
   |cons v N=>exact⟨v,N,rfl⟩
  have e:idx (v::N) 0=some v:=rfl
  refine .bind (.eq e) λ_ _=> .guard hx.d (.bind (.eq e) λy hy=> .guard (bC oM sM) (.guard (by simp[dN];omega) (.pure ?_)))
  refine⟨?_,by simp[pt],sM⟩
  show tk ([]++ [Act.mk 0 0 2 y 0 0])++cC (v::N) 1 ((v::N).length:Int)=_
  rw[hy]
  simp[tk,cC]
theorem f87_sat(tA:List Act)(x:aB)(hx:Rg x):Sat (f87 tR tP tX tD mI mH mO mE mN mS mU tA x) TT:=by
 unfold f87
 refine .letk (λk=>∀R d,Sat (k R d) TT) (λR d=>?_) λk hk=>?_
 ·refine .cond (λ_=> .pure trivial) λ_=> .bind (f131_sat _ _ _ _ _ _ _ _ _ _ _ _) λr _=> .cs (λ_ _=> .pure trivial) (λ_ _=> .pure trivial)
 ·refine .cond (λ_=> .guard hx.d (hk _ _)) λ_=> .cond (λ_=> .guard hx.a (.guard hx.d (hk _ _))) λ_=> .cond (λ_=> .guard hx.d (hk _ _)) λ_=> .cond (λ_=>hk _ _) λ_=> .cond (λ_=>hk _ _) (λ_=>hk _ _)
end
theorem f132_sat(op a b:Int):Sat (f132 op a b) (λ_=>True):=by
 have hdiv:∀(o:Option Int)(v:Int),o=aI (nz b) (some v)→Sat (bif (decide (b=0)) then some ((0:Int),false) else Option.bind o λr=>some (r,true)) (λ_=>True):=λo v ho=> .cond (λ_=> .pure trivial) λh=>by
  rw[ho,bE _ (by have:=of_decide_eq_false h;simp[nz,this])]
  exact .pure trivial
 have hmod:Sat (bif (decide (b=0)) then some ((0:Int),false) else Option.bind (f187 a b) λr=>some (r,true)) (λ_=>True):= .cond (λ_=> .pure trivial) λh=>by
  have hz:nz b=true:=by have:=of_decide_eq_false h;simp[nz,this]
  unfold f187
  rw[bE _ hz]
  refine .bind (P:=λ_=>True) (.cond (λ_=> .pure trivial) λ_=> .guard hz (.pure trivial)) λ_ _=> .pure trivial
 unfold f132
 refine .cond (λ_=> .pure trivial) λ_=> .cond (λ_=> .pure trivial) λ_=>?_
 simp only[ak]
 refine .cond (λ_=> .pure trivial) λ_=> .cond (λ_=> .pure trivial) λ_=> .cond (λ_=> .pure trivial) λ_=> .cond (λ_=>hdiv _ _ rfl) λ_=> .cond (λ_=>hdiv _ _ rfl) λ_=> .cond (λ_=>hmod) λ_=>?_
 exact .cond (λ_=> .pure trivial) λ_=> .cond (λ_=> .pure trivial) λ_=> .cond (λ_=> .pure trivial) λ_=> .cond (λ_=> .pure trivial) λ_=> .cond (λ_=> .pure trivial) λ_=> .cond (λ_=> .pure trivial) λ_=> .cond (λ_=> .pure trivial) λ_=> .cond (λ_=> .pure trivial) λ_=> .cond (λ_=> .pure trivial) λ_=> .cond (λ_=> .pure trivial) λ_=> .cond (λ_=> .pure trivial) λ_=> .cond (λ_=> .pure trivial) λ_=> .pure trivial
section
variable(tR:Nat→Int)(tP:Int)(tX:Int)(tD:Int)(mI:List aB)(mH:List aG)(mO:List Obj)(mE:Int)(mN:List Int)(mS:List (List Int))(mU:List Int)
theorem f88_sat(tA:List Act)(x:aB)(hx:Rg x)(hb:bK 16 x.b=true):Sat (f88 tR tP tX tD mI mH mO mE mN mS mU tA x) TT:=by
 unfold f88
 refine .guard hx.a (.guard hb (.bind (f132_sat _ _ _) λr _=> .cond (λ_=> .pure trivial) λ_=> .guard hx.d ?_))
 exact .bind (f131_sat _ _ _ _ _ _ _ _ _ _ _ _) λr _=> .cs (λ_ _=> .pure trivial) (λ_ _=> .pure trivial)
def mth(o:Int):Nat:=
 bif decide (o=3)||(decide (o=5)||decide (o=7)) then 81 else
 bif decide (o=4)||(decide (o=6)||decide (o=8)) then 82 else
 bif decide (o=29)||(decide (o=30)||(decide (o=31)||decide (o=32))) then 83 else
 bif decide (o=27)||decide (o=28) then 84 else
 bif decide (o=33)||(decide (o=34)||decide (o=35)) then 85 else
 bif decide (o=37)||(decide (o=38)||decide (o=39)) then 86 else
 bif decide (o=1)||(decide (o=2)||(decide (o=36)||(decide (o=40)||decide (o=41)))) then 87 else 88
theorem f46_eq(tA:List Act)(o:Int):f46 tR tP tX tD mI mH mO mE mN mS mU tA o=some (mth o):=by
 unfold f46 mth
 simp only[ak]
 cases decide (o=3)
 ·cases decide (o=5)
  ·cases decide (o=7)
   ·cases decide (o=4)
    ·cases decide (o=6)
     ·cases decide (o=8)
      ·cases decide (o=29)
       ·cases decide (o=30)
        ·cases decide (o=31)
         ·cases decide (o=32)
          ·cases decide (o=27)
           ·cases decide (o=28)
            ·cases decide (o=33)
             ·cases decide (o=34)
              ·cases decide (o=35)
               ·cases decide (o=37)
                ·cases decide (o=38)
                 ·cases decide (o=39)
                  ·cases decide (o=1)
                   ·cases decide (o=2)
                    ·cases decide (o=36)
                     ·cases decide (o=40)
                      ·cases decide (o=41)<;>rfl
                      ·rfl
                     ·rfl
                    ·rfl
                   ·rfl
                  ·rfl
                 ·rfl
                ·rfl
               ·rfl
              ·rfl
             ·rfl
            ·rfl
           ·rfl
          ·rfl
         ·rfl
        ·rfl
       ·rfl
      ·rfl
     ·rfl
    ·rfl
   ·rfl
  ·rfl
 ·rfl
theorem qR(o:Int):81≤mth o∧mth o≤88:=by
 unfold mth
 generalize(decide (o=3)||(decide (o=5)||decide (o=7)))=c1,(decide (o=4)||(decide (o=6)||decide (o=8)))=c2,(decide (o=29)||(decide (o=30)||(decide (o=31)||decide (o=32))))=c3,(decide (o=27)||decide (o=28))=c4,(decide (o=33)||(decide (o=34)||decide (o=35)))=c5,(decide (o=37)||(decide (o=38)||decide (o=39)))=c6,(decide (o=1)||(decide (o=2)||(decide (o=36)||(decide (o=40)||decide (o=41)))))=c7
 revert c1 c2 c3 c4 c5 c6 c7
 decide
theorem s7{o:Int}(h:mth o=88):o≠5∧o≠6:=by
 constructor<;>(rintro rfl;exact absurd h dC)
structure MV:Prop where
 h:mH.length≤4096
 s:mS.length=mO.length
 o:∀o∈mO,o.set_.length<9223372036854775808
 i:∀x∈mI,eP x=true∧0≤x.op
abbrev Z8:Type:=(Nat→Int)×Int×Int×Int×(List Int)×(List (List Int))×(List Int)×(List Act)
abbrev QE(mN mU:List Int)(n:Nat):Rs Z8→Prop:=OKq λz=>Io mN mU z.2.2.2.2.1 z.2.2.2.2.2.2.1 z.2.2.2.2.2.2.2∧z.2.2.2.2.2.1.length=n
theorem wt(hv:MV mI mH mO mS)(hU:mU.length≤1000000)(n:Nat)(hn:81≤n∧n≤88)(x:aB)(hx:Rg x)(hb:n=88→bK 16 x.b=true)(hk:x.op=37→IntKind.u8.wrap x.n≠1∧IntKind.u8.wrap x.n≠2):
  Sat (fm n tR tP tX tD mI mH mO mE mN mS mU [] x) (QE mN mU mS.length):=by
 unfold fm
 refine .cond (λ_=>?_) λe1=> .cond (λ_=>?_) λe2=> .cond (λ_=>?_) λe3=> .cond (λ_=>?_) λe4=> .cond (λ_=>?_) λe5=> .cond (λ_=>?_) λe6=> .cond (λ_=>?_) λe7=> .cond (λe=>?_) λe8=>?_
 ·exact .bind (f81_sat _ _ _ _ _ _ _ _ _ _ _ hv.s _ _ hx) λr _=> .pure (by cases r<;>first|trivial|exact⟨lg da,rfl⟩)
 ·exact .bind (f82_sat _ _ _ _ _ _ _ _ _ _ _ hv.s hv.o _ _ hx) λr hr=> .pure (by cases r<;>first|trivial|exact⟨lg da,hr⟩)
 ·exact .bind (f83_sat _ _ _ _ _ _ _ _ _ _ _ _ _ hx) λr _=> .pure (by cases r<;>first|trivial|exact⟨lg da,rfl⟩)
 ·exact .bind (f84_sat _ _ _ _ _ _ _ _ _ _ _ hv.h _ hx) λr hr=> .pure (by cases r<;>first|trivial|exact⟨lg hr,rfl⟩)
 ·exact .bind (f85_sat _ _ _ _ _ _ _ _ _ _ _ hv.h _ hx) λr hr=> .pure (by cases r<;>first|trivial|exact⟨lg hr,rfl⟩)
 ·exact .bind (f86_sat _ _ _ _ _ _ _ _ _ _ _ hv.h _ hx hk hU) λr hr=> .pure (by cases r<;>first|trivial|exact⟨hr,rfl⟩)
 ·exact .bind (f87_sat _ _ _ _ _ _ _ _ _ _ _ _ _ hx) λr _=> .pure (by cases r<;>first|trivial|exact⟨lg da,rfl⟩)
 ·exact .bind (f88_sat _ _ _ _ _ _ _ _ _ _ _ _ _ hx (hb (by simpa using e))) λr _=> .pure (by cases r<;>first|trivial|exact⟨lg da,rfl⟩)
 ·exfalso
  have:=Nat.ne_of_beq_eq_false e1
  have:=Nat.ne_of_beq_eq_false e2
  have:=Nat.ne_of_beq_eq_false e3
  have:=Nat.ne_of_beq_eq_false e4
  have:=Nat.ne_of_beq_eq_false e5
  have:=Nat.ne_of_beq_eq_false e6
  have:=Nat.ne_of_beq_eq_false e7
  have:=Nat.ne_of_beq_eq_false e8
  omega
theorem wy:jo 37=[(78,107),(77,115)]:=by decide+kernel
theorem wq{x:aB}(h:eP x=true)(ho:x.op=37):IntKind.u8.wrap x.n≠1∧IntKind.u8.wrap x.n≠2:=by
 unfold eP at h
 rw[ho,wy] at h
 simp only[Bool.and_eq_true] at h
 have:=h.2.2
 simp only[fl,rng,f179] at this
 simp at this
 rw[IntKind.wrap_u8]
 omega
theorem f36_iff{o:Int}(h0:0≤o):f36 o=true↔1≤o∧o≤41:=by
 unfold f36 f67
 simp only[Bool.and_eq_true,Bool.not_eq_true',decide_eq_true_eq,decide_eq_false_iff_not,Bool.and_eq_false_iff]
 omega
theorem f45_sat(hv:MV mI mH mO mS)(hU:mU.length≤1000000)(hp:0≤tP∧tP<mI.length):Sat (f45 tR tP tX tD mI mH mO mE mN mS mU []) (QE mN mU mS.length):=by
 unfold f45
 refine .bind (.idx hp) λx hx=> .cond (λ_=> .pure trivial) λh36=>?_
 have hm:=hv.i x (cy hx)
 have ho:=(f36_iff hm.2).1 (by simpa using h36)
 have hr:=n6 hm.1 ho
 rw[f46_eq,bnS]
 refine .bind (wt _ _ _ _ _ _ _ _ _ _ _ hv hU _ (qR _) _ hr (λe=>hr.b (s7 e).1 (s7 e).2) (wq hm.1)) λr hr=> .cs (λ_ _=> .pure trivial) λz hz=> .pure ?_
 rw[hz] at hr
 exact hr
structure EX(n:Nat)(mN mU:List Int)(r:aq×(List Act)×Int×(List Int)×(List (List Int))×(List Int)):Prop where
 io:Io mN mU r.2.2.2.1 r.2.2.2.2.2 r.2.1
 s:r.2.2.2.2.1.length=n
 e:r.2.2.1≠0→r.2.1=[]
theorem f11_sat(hv:MV mI mH mO mS)(hU:mU.length≤1000000)(r:aq):Sat (f11 mI mH mO mE mN mS mU r) (EX mS.length mN mU):=by
 unfold f11
 refine .bind (P:=EX mS.length mN mU) ?_ λr hr=> .pure hr
 unfold f44_45
 refine .bind (.eq rfl) λb _=> .cond (λ_=> .pure ⟨lg da,rfl,λ_=>rfl⟩) λ_=> .cond (λ_=> .pure ⟨lg da,rfl,λ_=>rfl⟩) λh=>?_
 simp only[Bool.or_eq_false_iff,decide_eq_false_iff_not] at h
 refine .bind (f45_sat _ _ _ _ _ _ _ _ _ _ _ hv hU oM) λr hr=> .cs (λ_ _=> .pure ⟨lg da,rfl,λ_=>rfl⟩) λz hz=> .pure ?_
 rw[hz] at hr
 exact⟨hr.1,hr.2,λh=>absurd rfl h⟩
end
theorem f12_l1_sat(t:aj)(k:Int→Option Bool)(hk:∀a,Sat (k a) λ_=>True):∀(n i:Nat)(a z:Int),z=(i:Int)→i≤100→100<n+i→Sat (f12_l1 t k n a z) λ_=>True
 |0,i,_,z,_,_,h=>oM
 |n+1,i,a,z,hz,hi,h=>by
  subst hz
  rw[f12_l1]
  refine .cond (λh1=>?_) λ_=>hk _
  rw[Bool.and_eq_true,decide_eq_true_eq,decide_eq_true_eq] at h1
  refine .bind (.idx oM) λx _=>?_
  rw[w64 (x:=(i:Int)+1) oM oM]
  exact f12_l1_sat t k hk n (i+1) _ _ (by push_cast;rfl) oM oM
theorem f12_sat(t:aj):Sat (f12 t) λ_=>True:=by
 unfold f12
 exact .letk (λk=>∀a,Sat (k a) λ_=>True) (λa=> .pure trivial) λk hk=>f12_l1_sat t k hk _ 0 _ 0 rfl oM oM
theorem vZ(A:List Act):(pt A).length≤A.length:=by
 unfold pt
 rw[List.length_map]
 exact List.length_filter_le _ _
theorem mv_of{t:aj}(hv:VT t):MV t.insns t.handlers t.objs (store t):=
 ⟨hv.hdls,(kL hv).len,hv.sz.sets,λx hx=>⟨by
  have:=hv.fits x hx
  unfold gJ at this
  rw[Bool.and_eq_true] at this
  exact this.1,(hv.sz.ops x hx).1⟩⟩
def lo2(x:Int):Int:=IntKind.i64.wrap (BitVec.ofInt IntKind.i64.bits x&&&BitVec.ofInt IntKind.i64.bits 3).toNat
def opv'(o:Int):Int:=IntKind.u8.wrap (9+(Int.tmod o 4))
def mk(x:aB):aB:=bif decide (opv' x.op>11) then aB.mk 2 (lo2 x.d) (lo2 x.a) 0 0 0 0 else aB.mk (opv' x.op) (lo2 x.d) (lo2 x.a) (lo2 x.b) 0 0 0
section
variable(R:Nat→Int)(p:Int)(mI:List aB)(mH:List aG)(mO:List Obj)(mE:Int)(mN:List Int)(mS:List (List Int))(mU:List Int)(x:aB)
end
abbrev rz:aq:=aq.mk (λ_=>0) 0 0 0
theorem f34_l1_eq(o:Obj)(v:Int)(r:Option Bool)(hl:o.set_.length<9223372036854775808):∀(n i:Nat)(z:Int),z=(i:Int)→i≤o.set_.length→o.set_.length<n+i→
  f34_l1 o v (λ_=>r) n z=bif (o.set_.drop i).any (λx=>f129 x v) then some true else r
 |0,i,z,_,_,h=>oM
 |n+1,i,z,hz,hi,h=>by
  subst hz
  rw[f34_l1]
  by_cases hh:i<o.set_.length
  ·rw[aM hh,List.any_cons,dcT (by omega:(i:Int)<(o.set_.length:Int)),cdT,aA hh,bnS,w64 (x:=(i:Int)+1) oM oM,f34_l1_eq o v r hl n (i+1) _ (by push_cast;rfl) oM oM]
   have e:f129 o.set_[i] v=decide (v=IntKind.i64.wrap (o.set_[i]+1)):=by
    unfold f129
    by_cases hv:v=IntKind.i64.wrap (o.set_[i]+1)
    ·rw[dcT hv,dcT hv.symm]
    ·rw[dcF hv,dcF λh=>hv h.symm]
   rw[e]
   cases decide (v=IntKind.i64.wrap (o.set_[i]+1))<;>rfl
  ·rw[dcF (by omega:¬(i:Int)<(o.set_.length:Int)),cdF,List.drop_eq_nil_of_le oM]
   rfl
theorem f34_eq(o:Obj)(v:Int)(hl:o.set_.length<9223372036854775808):f34 o v=some (fits o v):=by
 unfold f34 fits
 cases o.ptr
 ·rfl
 ·rw[Bool.not_true,cdF,cdT,ak,f34_l1_eq o v _ hl _ 0 0 rfl (Nat.zero_le _) oM,List.drop_zero]
  cases o.set_.any (λn=>f129 n v)<;>cases decide (v=0)<;>rfl
def p9(os:List Obj)(L:List Int):Nat→List Int→Bool
 |_,[]=>true
 |i,x::r=>(decide (0≤x)&&aim os x&&(bif Nat.beq i 0 then true else decide ((L[i - 1]?).getD 0<x)))&&p9 os L (i+1) r
theorem tU{os:List Obj}{x:Int}:aim os x=true→0≤x∧x<os.length:=λh=>by
 unfold aim at h
 cases hx:idx os x with
 |none=>rw[hx] at h;cases h
 |some y=>exact cR hx
theorem ur(os:List Obj)(L:List Int):∀(i:Nat),i≤L.length→p9 os L i (L.drop i)=fQ os (if i=0 then -1 else(L[i - 1]?).getD 0) (L.drop i)∨∃j,j<i∧(L[j]?).getD 0<0:=by
 intro i hi
 generalize hk:L.length - i=k
 induction k generalizing i with
 |zero=>
  left
  rw[List.drop_eq_nil_of_le oM];rfl
 |succ k ih=>
  have hh:i<L.length:=oM
  rw[aM hh]
  have hg:(L[i]?).getD 0=L[i]:=by rw[geG hh];rfl
  rcases ih (i+1) oM oM with h|⟨j,hj,hn⟩
  ·left
   rw[if_neg oM,Nat.add_sub_cancel,hg] at h
   unfold p9 fQ
   rw[h]
   by_cases h0:i=0
   ·subst h0
    rw[if_pos rfl]
    show((decide ((0:Int)≤L[0])&&aim os L[0]&&true)&&_)=_
    by_cases hx:(0:Int)≤L[0]
    ·rw[dcT hx,dcT (show(-1:Int)<L[0] by omega),Bool.and_true]
    ·rw[dcF hx,dcF (show¬(-1:Int)<L[0] by omega)];rfl
   ·rw[if_neg h0]
    have hb:Nat.beq i 0=false:=by
     cases i with
     |zero=>exact absurd rfl h0
     |succ i=>rfl
    rw[hb,cdF]
    by_cases ha:aim os L[i]=true
    ·have:=tU ha
     rw[ha,dcT this.1]
     cases decide ((L[i - 1]?).getD 0<L[i])<;>rfl
    ·have ha:aim os L[i]=false:=by simpa using ha
     rw[ha];simp
  ·by_cases hji:j=i
   ·subst hji
    left
    rw[hg] at hn
    unfold p9 fQ
    rw[dcF (show¬0≤L[j] by omega)]
    have ha:aim os L[j]=false:=by
     cases ha:aim os L[j]
     ·rfl
     ·have:=tU ha;omega
    rw[ha];simp
   ·exact .inr ⟨j,oM,hn⟩
theorem f133_l1_eq(t:aj)(o:Obj)(r:Option Bool)(hl:o.set_.length<9223372036854775808):∀(n i:Nat)(z:Int),z=(i:Int)→i≤o.set_.length→o.set_.length<n+i→
  f133_l1 t o (λ_=>r) n z=bif p9 t.objs o.set_ i (o.set_.drop i) then r else some false
 |0,i,z,_,_,h=>oM
 |n+1,i,z,hz,hi,h=>by
  subst hz
  rw[f133_l1]
  by_cases hh:i<o.set_.length
  ·rw[aM hh,p9,dcT (by omega:(i:Int)<(o.set_.length:Int)),cdT,aA hh,bnS,w64 (x:=(i:Int)+1) oM oM,f133_l1_eq t o r hl n (i+1) _ (by push_cast;rfl) oM oM]
   have hprev:i≠0→idx o.set_ (IntKind.i64.wrap ((i:Int) - 1))=some ((o.set_[i - 1]?).getD 0):=λh0=>by
    rw[w64 oM oM,show(i:Int) - 1=((i - 1:Nat):Int) by omega,aA oM,geG oM];rfl
   generalize hx:o.set_[i]=x
   unfold aim
   by_cases h1:0≤x∧x<t.objs.length
   ·obtain⟨y,hy,_⟩:=aR h1
    rw[dcF (show¬x<0 by omega),dcF (show¬x≥(t.objs.length:Int) by omega),dcT h1.1,hy]
    simp only[Bool.or_self,cdF,bnS]
    by_cases h2:y.size=1
    ·rw[dcT h2]
     cases h3:y.ptr
     ·simp only[Bool.not_true,Bool.not_false,cdF,bnS,Bool.and_self,Bool.true_and]
      by_cases h0:i=0
      ·subst h0;rfl
      ·rw[dcT (by omega:(i:Int)>0),cdT,hprev h0]
       have hb:Nat.beq i 0=false:=by
        cases i with
        |zero=>exact absurd rfl h0
        |succ i=>rfl
       rw[hb,cdF]
       simp only[bnS]
       by_cases h4:(o.set_[i - 1]?).getD 0<x
       ·rw[dcT h4,dcF oM];rfl
       ·rw[dcF h4,dcT oM];rfl
     ·rfl
    ·rw[dcF h2];rfl
   ·rw[de h1]
    have:(decide (x<0)||decide (x≥(t.objs.length:Int)))=true:=by
     rw[Bool.or_eq_true];simp only[decide_eq_true_eq];omega
    rw[this];simp
  ·rw[dcF (by omega:¬(i:Int)<(o.set_.length:Int)),cdF,List.drop_eq_nil_of_le oM]
   rfl
theorem f133_eq(t:aj)(o:Obj)(hl:o.set_.length<9223372036854775808):f133 t o=some (ef t.objs o):=by
 unfold f133 ef
 rw[ak,f133_l1_eq t o _ hl _ 0 0 rfl (Nat.zero_le _) oM,List.drop_zero]
 have hs:p9 t.objs o.set_ 0 o.set_=fQ t.objs (-1) o.set_:=by
  rcases ur t.objs o.set_ 0 (Nat.zero_le _) with h|⟨j,hj,_⟩
  ·simpa using h
  ·omega
 rw[hs]
 cases (decide (o.size<1)||decide (o.size>16384))||decide (o.lo>o.hi)
 ·cases o.ptr
  ·by_cases h0:(o.set_.length:Int)=0
   ·rw[dcT h0,dcF (show¬(o.set_.length:Int)>0 by omega)]
    have:o.set_=[]:=List.length_eq_zero_iff.1 oM
    rw[this];rfl
   ·rw[dcF h0,dcT (show(o.set_.length:Int)>0 by omega)];rfl
  ·cases decide (o.lo=0)<;>cases decide (o.hi=0)<;>cases fQ t.objs (-1) o.set_<;>cases decide ((o.set_.length:Int)>0)<;>rfl
 ·rfl
theorem f134_eq(t:aj)(o f m:Int)(hm:0≤m):f134 t o f m=some (spot t.objs o f m):=by
 unfold f134 spot
 by_cases h:0≤o∧o<t.objs.length
 ·obtain⟨x,hx,_⟩:=aR h
  rw[hx,dcT (show o≥0 from h.1),dcT h.2,dcT (show m≥0 from hm)]
  by_cases hf:0≤f
  ·rw[dcT (show f≥0 from hf)];rfl
  ·rw[dcF (show¬f≥0 from hf)];rfl
 ·rw[de h]
  have:(decide (o≥0)&&decide (o<(t.objs.length:Int)))=false:=by
   rw[Bool.and_eq_false_iff]
   simp only[decide_eq_false_iff_not]
   omega
  rw[this];rfl
theorem f89_l1_eq(t:aj)(k:Int→Option Bool)(hl:t.objs.length<9223372036854775808)(hs:∀o∈t.objs,o.set_.length<9223372036854775808):∀(n i:Nat)(z a:Int),z=(i:Int)→i≤t.objs.length→t.objs.length<n+i→
  f89_l1 t k n a z=bif (t.objs.drop i).all (ef t.objs) then k (nN a (t.objs.drop i)) else some false
 |0,i,z,a,_,_,h=>oM
 |n+1,i,z,a,hz,hi,h=>by
  subst hz
  rw[f89_l1]
  by_cases hh:i<t.objs.length
  ·rw[aM hh,List.all_cons,dcT (by omega:(i:Int)<(t.objs.length:Int)),cdT,aA hh,bnS,f133_eq t _ (hs _ (List.getElem_mem _)),bnS,w64 (x:=(i:Int)+1) oM oM,bnS]
   cases hc:ef t.objs t.objs[i]
   ·rfl
   ·rw[Bool.not_true,cdF,Bool.true_and,f89_l1_eq t k hl hs n (i+1) _ _ (by push_cast;rfl) oM oM]
    rfl
  ·rw[dcF (by omega:¬(i:Int)<(t.objs.length:Int)),cdF,List.drop_eq_nil_of_le oM]
   rfl
def neI(x y:d3):Bool:= !(decide (y.o=x.o)&&decide (y.slot=x.slot))
def ig(os:List Obj):List d3→List d3→Bool
 |_,[]=>true
 |P,x::r=>(d6 os x&&P.all (neI x))&&ig os (P++ [x]) r
theorem f89_l3_eq(t:aj)(j:Nat)(x:d3)(r:Option Bool)(hj:j≤t.inits.length)(hl:t.inits.length<9223372036854775808):∀(n i:Nat)(z:Int),z=(i:Int)→i≤j→j<n+i→
  f89_l3 t (j:Int) (λ_ _ _=>r) x n z=bif ((t.inits.take j).drop i).all (neI x) then r else some false
 |0,i,z,_,_,h=>oM
 |n+1,i,z,hz,hi,h=>by
  subst hz
  rw[f89_l3]
  have hL:(t.inits.take j).length=j:=by rw[List.length_take];omega
  by_cases hh:i<j
  ·have e:(t.inits.take j)[i]'oM=t.inits[i]'oM:=List.getElem_take
   rw[aM (L:=t.inits.take j) (i:=i) oM,List.all_cons,e,dcT (by omega:(i:Int)<(j:Int)),cdT,aA (show i<t.inits.length by omega),bnS,w64 oM oM,f89_l3_eq t j x r hj hl n (i+1) _ (by push_cast;rfl) oM oM]
   generalize t.inits[i]'oM=y
   unfold neI
   rw[bnS]
   cases decide (y.o=x.o)<;>cases decide (y.slot=x.slot)<;>rfl
  ·rw[dcF (by omega:¬(i:Int)<(j:Int)),cdF,List.drop_eq_nil_of_le oM]
   rfl
theorem f89_l2_eq(t:aj)(r:Option Bool)(hl:t.inits.length<9223372036854775808)(hs:∀o∈t.objs,o.set_.length<9223372036854775808):∀(n i:Nat)(z:Int),z=(i:Int)→i≤t.inits.length→t.inits.length<n+i→
  f89_l2 t (λ_=>r) n z=bif ig t.objs (t.inits.take i) (t.inits.drop i) then r else some false
 |0,i,z,_,_,h=>oM
 |n+1,i,z,hz,hi,h=>by
  subst hz
  rw[f89_l2]
  by_cases hh:i<t.inits.length
  ·rw[aM hh,ig,←List.take_succ_eq_append_getElem hh,dcT (by omega:(i:Int)<(t.inits.length:Int)),cdT,ak,aA hh,bnS,f134_eq _ _ _ _ oM,bnS,w64 oM oM,f89_l2_eq t r hl hs n (i+1) _ (by push_cast;rfl) oM oM]
   rw[f89_l3_eq t i _ _ oM hl _ 0 0 rfl (Nat.zero_le _) oM,List.drop_zero]
   generalize t.inits[i]=x
   unfold d6
   cases hsp:spot t.objs x.o x.slot 1
   ·rfl
   ·obtain⟨y,hy,_⟩:=fg hsp
    rw[hy]
    simp only[Bool.not_true,bnS,cdF,Bool.true_and]
    rw[f34_eq _ _ (hs _ (cy hy))]
    simp only[bnS]
    cases fits y x.v<;>cases (t.inits.take i).all (neI x)<;>rfl
  ·rw[dcF (by omega:¬(i:Int)<(t.inits.length:Int)),cdF,List.drop_eq_nil_of_le oM]
   rfl
theorem rN(P:List d3)(m:List ((Int×Int)×Bool))(x:d3):inM (P.foldl (λm x=>co m (x.o,x.slot) true) m) (x.o,x.slot)=(inM m (x.o,x.slot)|| !(P.all (neI x))):=by
 induction P generalizing m with
 |nil=>simp
 |cons y P ih=>
  rw[List.foldl_cons,ih,n5,List.all_cons]
  have:decide ((y.o,y.slot)=(x.o,x.slot))= !(neI x y):=by
   unfold neI
   rw[Bool.not_not]
   by_cases h1:y.o=x.o
   ·by_cases h2:y.slot=x.slot
    ·simp[h1,h2]
    ·simp[h1,h2]
   ·simp[h1]
  rw[this]
  cases neI x y<;>cases inM m (x.o,x.slot)<;>simp
theorem nt(os:List Obj):∀(r P:List d3),ig os P r=dt os (P.foldl (λm x=>co m (x.o,x.slot) true) []) r
 |[],P=>rfl
 |x::r,P=>by
  rw[ig,dt,nt os r (P++ [x]),List.foldl_append,rN]
  have e:inM ([]:List ((Int×Int)×Bool)) (x.o,x.slot)=false:=rfl
  rw[e,Bool.false_or,Bool.not_not]
  simp only[List.foldl_cons,List.foldl_nil]
  cases d6 os x<;>cases P.all (neI x)<;>rfl
theorem wG{α:Type}(xs:List α)(F:Nat→Int→Option Bool)(k:Option Bool)(p:α→Bool)(hl:xs.length<9223372036854775808)
  (h0:∀n (i:Nat)(h:i<xs.length),F (n+1) (i:Int)=bif p xs[i] then F n ((i+1:Nat):Int) else some false)
  (h1:∀n,F (n+1) (xs.length:Int)=k):∀(n i:Nat)(z:Int),z=(i:Int)→i≤xs.length→xs.length<n+i→F n z=bif (xs.drop i).all p then k else some false
 |0,i,z,_,_,h=>oM
 |n+1,i,z,hz,hi,h=>by
  subst hz
  by_cases hh:i<xs.length
  ·rw[aM hh,List.all_cons,h0 n i hh,wG xs F k p hl h0 h1 n (i+1) _ rfl oM oM]
   cases p xs[i]<;>rfl
  ·have e:i=xs.length:=oM
   subst e
   rw[h1,List.drop_eq_nil_of_le (Nat.le_refl _)];rfl
theorem fW{α:Type}(xs:List α)(F:Nat→Int→Option Bool)(k:Option Bool)(p:α→Bool)(n:Nat)(hn:n=9223372036854775808)(hl:xs.length<9223372036854775808)
  (h0:∀n (i:Nat)(h:i<xs.length),F (n+1) (i:Int)=bif p xs[i] then F n ((i+1:Nat):Int) else some false)
  (h1:∀n,F (n+1) (xs.length:Int)=k):F n 0=bif xs.all p then k else some false:=by
 rw[wG xs F k p hl h0 h1 n 0 0 rfl (Nat.zero_le _) oM,List.drop_zero]
theorem dO{i n:Nat}(h:i<n):decide ((i:Int)<(n:Int))=true:=dcT oM
theorem dq{n:Nat}:decide ((n:Int)<(n:Int))=false:=dcF oM
theorem w1{i n:Nat}(h:i<n)(hl:n<9223372036854775808):IntKind.i64.wrap ((i:Int)+1)=((i+1:Nat):Int):=by rw[w64 oM oM];push_cast;rfl
theorem f135_eq(t:aj)(l:List Int):f135 t l=some (eD t.objs l):=by
 unfold f135 eD
 by_cases h:(l.length:Int)≤8
 ·rw[dcT h,dcF (by omega:¬(l.length:Int)>8),cdF,ak,
   fW l (f135_l1 t l λ_=>some true) (some true) (qh t.objs) _ rfl oM (λn i hi=>by
    rw[f135_l1,dO hi,cdT,aA hi,bnS,w1 hi oM]
    generalize l[i]=x
    unfold qh
    by_cases hx:0≤x∧x<t.objs.length
    ·obtain⟨y,hy,_⟩:=aR hx
     rw[hy,dcF (show¬x<0 by omega)]
     simp only[cdF,bnS]
     rw[dcF (show¬x≥(t.objs.length:Int) by omega),cdF,hy,bnS]
     cases decide (y.size=1)<;>rfl
    ·rw[de hx]
     by_cases h1:x<0
     ·rw[dcT h1];rfl
     ·rw[dcF h1]
      simp only[cdF,bnS]
      rw[dcT (show x≥(t.objs.length:Int) by omega)];rfl) (λn=>by rw[f135_l1,dq,cdF])]
  cases l.all (qh t.objs)<;>rfl
 ·rw[dcF h,dcT (by omega:(l.length:Int)>8)];rfl
theorem f90_eq(t:aj):f90 t=some (eO t):=by
 unfold f90 eO
 cases h1:(decide ((t.tasks.length:Int)<1)||decide ((t.tasks.length:Int)>32))
 ·have hl:(t.tasks.length:Int)≤32:=by
   simp only[Bool.or_eq_false_iff,decide_eq_false_iff_not] at h1
   omega
  rw[cdF,ak,fW t.tasks (f90_l1 t λ_=>some true) (some true) (gv t) _ rfl oM (λn i hi=>by
   rw[f90_l1,dO hi,cdT,ak,aA hi,bnS,w1 hi oM]
   generalize t.tasks[i]=x
   unfold gv
   have hat:f30 t x.at_=at1 t x.at_:=rfl
   rw[hat]
   cases hc:(((((decide (x.prio<0)||decide (x.prio>31))||(!(at1 t x.at_)))||decide (x.deadline<0))||decide (x.deadline>2147483647))||decide ((x.entries.length:Int)>8))
   ·have he:(x.entries.length:Int)≤8:=by
     simp only[Bool.or_eq_false_iff,decide_eq_false_iff_not] at hc
     omega
    rw[cdF,fW x.entries (f90_l2 t (λ_ _ _ _=>f90_l1 t (λ_=>some true) n ((i+1:Nat):Int)) x) (f90_l1 t (λ_=>some true) n ((i+1:Nat):Int)) (eV t.objs) _ rfl oM (λm j hj=>by
     rw[f90_l2,dO hj,cdT,aA hj,bnS,w1 hj oM,f135_eq,bnS,bnS,f135_eq]
     unfold eV
     cases eD t.objs x.entries[j].ins<;>cases eD t.objs x.entries[j].outs<;>rfl) (λm=>by rw[f90_l2,dq,cdF])]
    cases x.entries.all (eV t.objs)<;>rfl
   ·rfl) (λn=>by rw[f90_l1,dq,cdF])]
  cases t.tasks.all (gv t)<;>rfl
 ·rfl
theorem uz(a b:Int)(ha: -9223372036854775808≤a∧a≤9223372036854775807)(hb: -9223372036854775808≤b∧b≤9223372036854775807):
  decide ((IntKind.i64.wrap (BitVec.ofInt IntKind.i64.bits a|||BitVec.ofInt IntKind.i64.bits b).toNat)=0)=(decide (a=0)&&decide (b=0)):=by
 have hz:∀x:BitVec 64,IntKind.i64.wrap (x.toNat:Int)=0↔x=0#64:=λx=>by
  have:=x.isLt
  rw[IntKind.wrap_i64]
  constructor
  ·intro h
   apply BitVec.eq_of_toNat_eq
   show x.toNat=0
   omega
  ·intro h
   have:x.toNat=0:=by rw[h];rfl
   omega
 have hf:∀a:Int, -9223372036854775808≤a∧a≤9223372036854775807→(BitVec.ofInt 64 a=0#64↔a=0):=λa ha=>by
  constructor
  ·intro h
   have:=congrArg BitVec.toNat h
   rw[BitVec.toNat_ofInt] at this
   have e:(0#64).toNat=0:=rfl
   rw[e] at this
   omega
  ·intro h
   rw[h];rfl
 have e:(IntKind.i64.wrap (BitVec.ofInt IntKind.i64.bits a|||BitVec.ofInt IntKind.i64.bits b).toNat=0)↔(a=0∧b=0):=(hz _).trans (BitVec.or_eq_zero_iff.trans (and_congr (hf a ha) (hf b hb)))
 rw[decide_eq_decide.2 e,Bool.decide_and]
theorem uW(t:aj)(o:Int)(a:ju)(h1: -9223372036854775808≤a.entry∧a.entry≤9223372036854775807)(h2: -9223372036854775808≤a.time∧a.time≤9223372036854775807):f138 t o a=some (gV t o a):=by
 unfold f138 gV
 rw[uz _ _ h1 h2,f134_eq t o a.guard 1 oM,f134_eq t o a.time 1 oM]
 have hat:f30 t a.at_=at1 t a.at_:=rfl
 have h8:decide (a.entry≤7)=decide (a.entry<8):=by
  by_cases h:a.entry≤7
  ·rw[dcT h,dcT oM]
  ·rw[dcF h,dcF oM]
 rw[hat,h8]
 simp only[ak,bnS]
 cases at1 t a.at_
 ·rfl
 ·cases decide (a.guard= -1)
  ·cases spot t.objs o a.guard 1
   ·rfl
   ·cases decide (a.kind=1)
    ·cases decide (a.kind=2)<;>cases decide (a.kind=3)<;>cases decide (a.kind=4)<;>cases decide (a.entry=0)<;>cases decide (a.time=0)<;>rfl
    ·rfl
  ·cases decide (a.kind=1)
   ·cases decide (a.kind=2)<;>cases decide (a.kind=3)<;>cases decide (a.kind=4)<;>cases decide (a.entry=0)<;>cases decide (a.time=0)<;>rfl
   ·rfl
theorem rB{os:List Obj}{o:Int}(hp:∀y,idx os o=some y→1≤y.size∧y.size≤65536):spot os o 0 1=(decide (0≤o)&&decide (o<(os.length:Int))):=by
 unfold spot
 by_cases h:0≤o∧o<os.length
 ·obtain⟨x,hx,_⟩:=aR h
  have:=hp x hx
  rw[hx,dcT h.1,dcT h.2]
  dsimp only
  rw[w64 oM oM]
  simp;omega
 ·rw[de h]
  dsimp only
  by_cases h1:0≤o
  ·rw[dcF (show¬o<(os.length:Int) by omega),Bool.and_false]
  ·rw[dcF h1];rfl
theorem f92_l2_eq(t:aj)(x:dJ)(r:Option Bool)(ha:∀a∈x.alts,(-9223372036854775808≤a.entry∧a.entry≤9223372036854775807)∧-9223372036854775808≤a.time∧a.time≤9223372036854775807)(hl:x.alts.length<9223372036854775808)(n:Nat)(hn:n=9223372036854775808):
  f92_l2 t (λ_ _ _=>r) x n 0=bif x.alts.all (gV t x.obj) then r else some false:=
 fW x.alts (f92_l2 t (λ_ _ _=>r) x) r (gV t x.obj) n hn hl (λm j hj=>by
  have:=ha _ (List.getElem_mem hj)
  rw[f92_l2,dO hj,cdT,aA hj,bnS,w1 hj hl,uW _ _ _ this.1 this.2,bnS]
  cases gV t x.obj x.alts[j]<;>rfl) (λm=>by rw[f92_l2,dq,cdF])
def ji{α:Type}(q:List α→α→Bool):List α→List α→Bool
 |_,[]=>true
 |P,x::r=>q P x&&ji q (P++ [x]) r
theorem vd{α:Type}(xs:List α)(F:Nat→Int→Option Bool)(k:Option Bool)(q:List α→α→Bool)(hl:xs.length<9223372036854775808)
  (h0:∀n (i:Nat)(h:i<xs.length),F (n+1) (i:Int)=bif q (xs.take i) xs[i] then F n ((i+1:Nat):Int) else some false)
  (h1:∀n,F (n+1) (xs.length:Int)=k):∀(n i:Nat)(z:Int),z=(i:Int)→i≤xs.length→xs.length<n+i→F n z=bif ji q (xs.take i) (xs.drop i) then k else some false
 |0,i,z,_,_,h=>oM
 |n+1,i,z,hz,hi,h=>by
  subst hz
  by_cases hh:i<xs.length
  ·rw[aM hh,ji,←List.take_succ_eq_append_getElem hh,h0 n i hh,vd xs F k q hl h0 h1 n (i+1) _ rfl oM oM]
   cases q (xs.take i) xs[i]<;>rfl
  ·have e:i=xs.length:=oM
   subst e
   rw[h1,List.drop_eq_nil_of_le (Nat.le_refl _)];rfl
theorem qJ{α:Type}(xs:List α)(F:Nat→Int→Option Bool)(k:Option Bool)(q:List α→α→Bool)(n:Nat)(hn:n=9223372036854775808)(hl:xs.length<9223372036854775808)
  (h0:∀n (i:Nat)(h:i<xs.length),F (n+1) (i:Int)=bif q (xs.take i) xs[i] then F n ((i+1:Nat):Int) else some false)
  (h1:∀n,F (n+1) (xs.length:Int)=k):F n 0=bif ji q [] xs then k else some false:=by
 rw[vd xs F k q hl h0 h1 n 0 0 rfl (Nat.zero_le _) oM,List.drop_zero,List.take_zero]
theorem pY{α:Type}(xs:List α)(j:Nat)(hj:j≤xs.length)(F:Nat→Int→Option Bool)(k:Option Bool)(p:α→Bool)(n:Nat)(hn:n=9223372036854775808)(hl:xs.length<9223372036854775808)
  (h0:∀n (i:Nat)(h:i<xs.length),i<j→F (n+1) (i:Int)=bif p xs[i] then F n ((i+1:Nat):Int) else some false)
  (h1:∀n,F (n+1) (j:Int)=k):F n 0=bif (xs.take j).all p then k else some false:=by
 have hL:(xs.take j).length=j:=by rw[List.length_take];omega
 refine fW (xs.take j) F k p n hn oM (λm i h=>?_) (λm=>by rw[hL];exact h1 m)
 rw[h0 m i oM oM,List.getElem_take]
def o9(n:Int)(P:List Int)(x:Int):Bool:= !(decide (x<1)||decide (x≥n))&&P.all λy=> !(decide (y=x))
theorem tl(P:List Int)(m:List (Int×Bool))(x:Int):inM (P.foldl (λm x=>co m x true) m) x=(inM m x|| !(P.all λy=> !(decide (y=x)))):=by
 induction P generalizing m with
 |nil=>simp
 |cons y P ih=>
  rw[List.foldl_cons,ih,n5,List.all_cons]
  cases decide (y=x)<;>cases inM m x<;>simp
theorem o8(n:Int):∀(r P:List Int),ji (o9 n) P r=gb n (P.foldl (λm x=>co m x true) []) r
 |[],P=>rfl
 |x::r,P=>by
  rw[ji,gb,o8 n r (P++ [x]),List.foldl_append,tl]
  have e:inM ([]:List (Int×Bool)) x=false:=rfl
  rw[e,Bool.false_or,o9]
  simp only[List.foldl_cons,List.foldl_nil]
  cases (decide (x<1)||decide (x≥n))<;>cases (P.all λy=> !(decide (y=x)))<;>rfl
theorem f92_l4_eq(t:aj)(l:List Int)(r:Option Bool)(hl:l.length<9223372036854775808)(n:Nat)(hn:n=9223372036854775808):
  f92_l4 t (λ_=>r) l n 0=bif gb t.tasks.length [] l then r else some false:=by
 rw[show gb (t.tasks.length:Int) [] l=ji (o9 t.tasks.length) [] l from(o8 _ l []).symm]
 refine qJ l (f92_l4 t (λ_=>r) l) r (o9 t.tasks.length) n hn hl (λm i hi=>?_) (λm=>by rw[f92_l4,dq,cdF])
 rw[f92_l4,dO hi,cdT,ak,aA hi,bnS,w1 hi hl,bnS]
 unfold o9
 rw[pY l i oM (f92_l5 l (i:Int) λ_=>f92_l4 t (λ_=>r) l m ((i+1:Nat):Int)) (f92_l4 t (λ_=>r) l m ((i+1:Nat):Int)) (λy=> !(decide (y=l[i]))) _ rfl hl (λm' j hj hji=>by
  rw[f92_l5,dcT (by omega:(j:Int)<(i:Int)),cdT,aA hj,bnS,aA hi,bnS,w1 hj hl]
  cases decide (l[j]=l[i])<;>rfl) (λm'=>by rw[f92_l5,dq,cdF])]
 cases decide (l[i]<1)<;>cases decide (l[i]≥(t.tasks.length:Int))<;>cases ((l.take i).all λy=> !(decide (y=l[i])))<;>rfl
theorem f92_l3_eq(t:aj)(r:Option Bool)(hl:t.lists.length<9223372036854775808)(n:Nat)(hn:n=9223372036854775808):
  f92_l3 t (λ_=>r) n 0=bif t.lists.all (kO t) then r else some false:=by
 refine fW t.lists (f92_l3 t λ_=>r) r (kO t) n hn hl (λm i hi=>?_) (λm=>by rw[f92_l3,dq,cdF])
 rw[f92_l3,dO hi,cdT,ak,aA hi,bnS,w1 hi hl]
 generalize t.lists[i]=x
 unfold kO
 by_cases h:(x.length:Int)>32
 ·rw[dcT h,Bool.not_true,Bool.and_false];rfl
 ·rw[dcF h,cdF,f92_l4_eq t x _ oM _ rfl]
  cases gb t.tasks.length [] x<;>rfl
structure SzA(t:aj):Prop where
 alts:∀x∈t.selects,∀a∈x.alts,(-9223372036854775808≤a.entry∧a.entry≤9223372036854775807)∧-9223372036854775808≤a.time∧a.time≤9223372036854775807
theorem f92_l1_eq(t:aj)(ha:SzA t)(hp:∀o y,idx t.objs o=some y→1≤y.size∧y.size≤65536)(r:Option Bool)(hl:t.selects.length<9223372036854775808)(n:Nat)(hn:n=9223372036854775808):
  f92_l1 t (λ_=>r) n 0=bif t.selects.all (jE t) then r else some false:=by
 refine fW t.selects (f92_l1 t λ_=>r) r (jE t) n hn hl (λm i hi=>?_) (λm=>by rw[f92_l1,dq,cdF])
 rw[f92_l1,dO hi,cdT,ak,aA hi,bnS,w1 hi hl]
 have hx:=ha.alts _ (List.getElem_mem hi)
 generalize t.selects[i]=x at hx
 have hat:f30 t x.else_=at1 t x.else_:=rfl
 rw[f134_eq t x.obj 0 1 oM,rB (hp x.obj),hat]
 unfold jE
 by_cases hc:1≤(x.alts.length:Int)∧(x.alts.length:Int)≤16
 ·rw[dcF (show¬(x.alts.length:Int)<1 by omega),dcF (show¬(x.alts.length:Int)>16 by omega)]
  simp only[Bool.or_self,cdF,bnS,Bool.false_or]
  rw[f92_l2_eq t x _ hx oM _ rfl]
  by_cases h1:0≤x.obj
  ·rw[dcT h1,dcF (show¬x.obj<0 by omega)]
   by_cases h2:x.obj<(t.objs.length:Int)
   ·rw[dcT h2,dcF (show¬x.obj≥(t.objs.length:Int) by omega)]
    cases decide (x.else_= -1)<;>cases at1 t x.else_<;>cases x.alts.all (gV t x.obj)<;>rfl
   ·rw[dcF h2,dcT (show x.obj≥(t.objs.length:Int) by omega)];rfl
  ·rw[dcF h1,dcT (show x.obj<0 by omega)];rfl
 ·have:(decide ((x.alts.length:Int)<1)||decide ((x.alts.length:Int)>16))=true:=by
   rw[Bool.or_eq_true]
   simp only[decide_eq_true_eq]
   omega
  rw[this];rfl
theorem f92_eq(t:aj)(ha:SzA t)(hp:∀o y,idx t.objs o=some y→1≤y.size∧y.size≤65536):f92 t=some (lR t&&jl t):=by
 unfold f92 lR jl
 by_cases h1:(t.selects.length:Int)>1024
 ·rw[dcT h1];rfl
 ·rw[dcF h1,Bool.false_or]
  by_cases h2:(t.lists.length:Int)>4096
  ·rw[dcT h2]
   cases t.selects.all (jE t)<;>rfl
  ·rw[dcF h2,cdF,ak,f92_l1_eq t ha hp _ oM _ rfl,ak,f92_l3_eq t _ oM _ rfl]
   cases t.selects.all (jE t)<;>cases t.lists.all (kO t)<;>rfl
def uI(t:aj)(P:List aG)(x:aG):Bool:= !(gE t x)&&P.all λg=> !((!(decide (g.from_≥x.from_)&&decide (g.to≤x.to)))&&(!(decide (g.to≤x.from_)||decide (x.to≤g.from_))))
theorem qQ{x g:aG}(hx:x.from_<x.to)(hg:g.from_<g.to):jk x g= !((!(decide (g.from_≥x.from_)&&decide (g.to≤x.to)))&&(!(decide (g.to≤x.from_)||decide (x.to≤g.from_)))):=by
 have e:decide ((if x.from_>g.from_ then x.from_ else g.from_)<(if x.to<g.to then x.to else g.to))=(!(decide (g.to≤x.from_)||decide (x.to≤g.from_))):=by
  by_cases h1:g.to≤x.from_
  ·rw[dcT h1]
   refine dcF ?_
   split<;>split<;>omega
  ·by_cases h2:x.to≤g.from_
   ·rw[dcT h2,Bool.or_true]
    refine dcF ?_
    split<;>split<;>omega
   ·rw[dcF h1,dcF h2]
    refine dcT ?_
    split<;>split<;>omega
 unfold jk
 rw[e]
theorem rO{t:aj}{x:aG}(h:gE t x=false):x.from_<x.to:=by
 unfold gE at h
 simp only[Bool.or_eq_false_iff,decide_eq_false_iff_not] at h
 omega
theorem qV(t:aj):∀(r P:List aG),(∀g∈P,g.from_<g.to)→ji (uI t) P r=gD t P r
 |[],P,_=>rfl
 |x::r,P,hP=>by
  rw[ji,gD,uI]
  cases hb:gE t x
  ·have hx:=rO hb
   rw[qV t r (P++ [x]) (λg hg=>by
    rcases List.mem_append.1 hg with h|h
    ·exact hP g h
    ·rw[List.mem_singleton] at h;subst h;exact hx)]
   have e:(P.all λg=> !((!(decide (g.from_≥x.from_)&&decide (g.to≤x.to)))&&(!(decide (g.to≤x.from_)||decide (x.to≤g.from_)))))=P.all (jk x):=by
    rw[Bool.eq_iff_iff,List.all_eq_true,List.all_eq_true]
    constructor
    ·intro h g hg
     rw[qQ hx (hP g hg)];exact h g hg
    ·intro h g hg
     rw[←qQ hx (hP g hg)];exact h g hg
   rw[e]
  ·rfl
theorem f93_eq(t:aj):f93 t=some (kS t):=by
 unfold f93 kS
 cases h1:decide ((t.handlers.length:Int)>4096)
 ·have hl:(t.handlers.length:Int)≤4096:=by
   simp only[decide_eq_false_iff_not] at h1
   omega
  rw[cdF,ak,qJ t.handlers (f93_l1 t λ_=>some true) (some true) (uI t) _ rfl oM (λn i hi=>by
   rw[f93_l1,dO hi,cdT,ak,aA hi,bnS,w1 hi oM]
   generalize t.handlers[i]=x
   unfold uI
   have hat:f30 t x.at_=at1 t x.at_:=rfl
   have hb:(((((decide (x.from_<0))||(decide (x.from_≥x.to)))||(decide (x.to>(List.length t.insns:Int))))||(!(f30 t x.at_)))||((decide (x.at_≥x.from_))&&(decide (x.at_<x.to))))=gE t x:=by
    rw[hat];rfl
   rw[hb]
   cases gE t x
   ·rw[cdF,pY t.handlers i oM (f93_l2 t (i:Int) (λ_ _ _ _=>f93_l1 t (λ_=>some true) n ((i+1:Nat):Int)) x) (f93_l1 t (λ_=>some true) n ((i+1:Nat):Int)) (λg=> !((!(decide (g.from_≥x.from_)&&decide (g.to≤x.to)))&&(!(decide (g.to≤x.from_)||decide (x.to≤g.from_))))) _ rfl oM (λm j hj hji=>by
     rw[f93_l2,dcT (by omega:(j:Int)<(i:Int)),cdT,aA hj,bnS,w1 hj oM]
     generalize t.handlers[j]=g
     cases ((!(decide (g.from_≥x.from_)&&decide (g.to≤x.to)))&&(!(decide (g.to≤x.from_)||decide (x.to≤g.from_))))<;>rfl) (λm=>by rw[f93_l2,dq,cdF])]
    rfl
   ·rfl) (λn=>by rw[f93_l1,dq,cdF]),qV t _ _ λg hg=>by cases hg]
  cases gD t [] t.handlers<;>rfl
 ·rfl
def lpQ(t:aj)(P:List Loop)(x:Loop):Bool:=tg t x&&P.all λy=> !(decide (y.back=x.back))
theorem uH(P:List Loop)(m:List (Int×Bool))(x:Loop):inM (P.foldl (λm x=>co m x.back true) m) x.back=(inM m x.back|| !(P.all λy=> !(decide (y.back=x.back)))):=by
 induction P generalizing m with
 |nil=>simp
 |cons y P ih=>
  rw[List.foldl_cons,ih,n5,List.all_cons]
  cases decide (y.back=x.back)<;>cases inM m x.back<;>simp
theorem tf(t:aj):∀(r P:List Loop),ji (lpQ t) P r=jL t (P.foldl (λm x=>co m x.back true) []) r
 |[],P=>rfl
 |x::r,P=>by
  rw[ji,jL,tf t r (P++ [x]),List.foldl_append,uH]
  have e:inM ([]:List (Int×Bool)) x.back=false:=rfl
  rw[e,Bool.false_or,lpQ]
  simp only[List.foldl_cons,List.foldl_nil]
  cases tg t x<;>cases (P.all λy=> !(decide (y.back=x.back)))<;>rfl
theorem uF(t:aj)(x:Loop):(((((!(f30 t x.head))||(!(f30 t x.back)))||(decide (x.head>x.back)))||(decide (x.bound<0)))||(decide (x.bound>2147483647)))=(((decide (x.head<0)||decide (x.head>x.back))||(!(at1 t x.back)))||(decide (x.bound<0)||decide (x.bound>2147483647))):=by
 have h1:f30 t x.head=(decide (x.head≥0)&&decide (x.head<(t.insns.length:Int))):=rfl
 have h2:f30 t x.back=(decide (x.back≥0)&&decide (x.back<(t.insns.length:Int))):=rfl
 unfold at1
 rw[h1,h2,Bool.eq_iff_iff]
 simp only[Bool.or_eq_true,Bool.not_eq_true',Bool.and_eq_false_iff,decide_eq_true_eq,decide_eq_false_iff_not]
 omega
theorem f94_eq(t:aj):f94 t=some (qk t):=by
 unfold f94 qk
 cases h1:decide ((t.loops.length:Int)>4096)
 ·have hl:(t.loops.length:Int)≤4096:=by
   simp only[decide_eq_false_iff_not] at h1
   omega
  rw[cdF,ak,qJ t.loops (f94_l1 t λ_=>some true) (some true) (lpQ t) _ rfl oM (λn i hi=>by
   rw[f94_l1,dO hi,cdT,ak,aA hi,bnS,w1 hi oM]
   generalize t.loops[i]=x
   rw[uF]
   unfold lpQ tg
   cases hc:(decide (x.head<0)||decide (x.head>x.back))||(!(at1 t x.back))
   ·have h2:at1 t x.back=true:=by
     cases h:at1 t x.back
     ·rw[h] at hc;simp at hc
     ·rfl
    obtain⟨y,hy,_⟩:=aR (iC.1 h2)
    rw[hy,bnS]
    cases hd:(decide (x.bound<0)||decide (x.bound>2147483647))
    ·rw[Bool.or_self,cdF]
     have e:((((!decide (y.op=29))&&(!decide (y.op=30)))&&(!decide (y.op=31)))||(!decide (y.to=x.head)))= !(f121 y x.head):=by
      unfold f121
      cases decide (y.op=29)<;>cases decide (y.op=30)<;>cases decide (y.op=31)<;>cases decide (y.to=x.head)<;>rfl
     rw[e,pY t.loops i oM (f94_l2 t (i:Int) n (λ_ _ _ _ _ _ _ _ _ _=>f94_l1 t (λ_=>some true) n ((i+1:Nat):Int)) x y) (f94_l1 t (λ_=>some true) n ((i+1:Nat):Int)) (λg=> !(decide (g.back=x.back))) _ rfl oM (λm j hj hji=>by
      rw[f94_l2,dcT (by omega:(j:Int)<(i:Int)),cdT,aA hj,bnS,w1 hj oM]
      generalize t.loops[j]=g
      cases decide (g.back=x.back)<;>rfl) (λm=>by rw[f94_l2,dq,cdF])]
     dsimp only
     cases f121 y x.head<;>rfl
    ·rw[Bool.or_true,Bool.not_true,Bool.and_false,Bool.false_and];rfl
   ·rfl) (λn=>by rw[f94_l1,dq,cdF]),show ji (lpQ t) [] t.loops=jL t [] t.loops from tf t _ []]
  cases jL t [] t.loops<;>rfl
 ·rfl
def m8(z:Bool×Int):Int:=bif z.1 then z.2 else -1
theorem tE(g:Int→aW→Bool×Int)(hg:∀l e,0≤l→l≤256→(g l e).1=true→0≤(g l e).2∧(g l e).2≤256):∀(L:List aW)(l:Int),0≤l→l≤256→(exL g L l).1=true→0≤(exL g L l).2∧(exL g L l).2≤256
 |[],l,h0,h1,_=>⟨h0,h1⟩
 |e::r,l,h0,h1,h=>by
  rw[exL] at h⊢
  cases hb:(g l e).1
  ·rw[hb] at h;cases h
  ·rw[hb,cdT] at h
   rw[cdT]
   have:=hg l e h0 h1 hb
   exact tE g hg r _ this.1 this.2 h
theorem qs(os:List Obj)(ent:Int):∀(n:Nat)(deep left:Int)(e:aW),0≤left→left≤256→(exF os ent n deep left e).1=true→0≤(exF os ent n deep left e).2∧(exF os ent n deep left e).2≤256
 |0,deep,left,e,_,_,h=>by cases h
 |n+1,deep,left,e,h0,h1,h=>by
  rw[exF] at h⊢
  cases hb:((decide (IntKind.i64.wrap (left - 1)<0)||decide (deep>64))||eu os ent e)
  ·rw[hb,cdF] at h
   rw[cdF]
   rw[w64 oM oM] at hb h⊢
   have:¬left - 1<0:=by
    intro hh
    rw[dcT hh] at hb;simp at hb
   exact tE _ (λl e a b c=>qs os ent n (deep+1) l e a b c) _ _ oM oM h
  ·rw[hb] at h;cases h
theorem f136_loop(rec:aj→Int→aW→Int→Int→Option Int)(t:aj)(ent:Int)(e:aW)(deep:Int)(g:Int→aW→Bool×Int)
  (hr:∀l x,0≤l→l≤256→rec t ent x (IntKind.i64.wrap (deep+1)) l=some (m8 (g l x)))(hg:∀l e,0≤l→l≤256→(g l e).1=true→0≤(g l e).2∧(g l e).2≤256)(hl:e.l.length<9223372036854775808):
  ∀(n i:Nat)(z left:Int),z=(i:Int)→i≤e.l.length→e.l.length<n+i→0≤left→left≤256→f136s_l1 rec t ent e deep (λn=>some n) n left z=some (m8 (exL g (e.l.drop i) left))
 |0,i,z,left,_,_,h,_,_=>oM
 |n+1,i,z,left,hz,hi,h,h0,h1=>by
  subst hz
  rw[f136s_l1,dcT (show left≥0 from h0),Bool.and_true]
  by_cases hh:i<e.l.length
  ·rw[aM hh,dO hh,cdT,aA hh,bnS,hr _ _ h0 h1,bnS,w1 hh hl,exL]
   cases hb:(g left e.l[i]).1
   ·rw[m8,hb,cdF,cdF]
    cases n with
    |zero=>omega
    |succ n=>
     rw[f136s_l1,dcF (show¬(-1:Int)≥0 by omega),Bool.and_false];rfl
   ·have:=hg _ _ h0 h1 hb
    rw[m8,hb,cdT,cdT,f136_loop rec t ent e deep g hr hg hl n (i+1) _ _ rfl oM oM this.1 this.2]
  ·have ei:i=e.l.length:=oM
   subst ei
   rw[dq,cdF,List.drop_eq_nil_of_le (Nat.le_refl _)];rfl
theorem p7(f p a b c d l lo hi:Bool):((!f)||(!((((((a&&b)&&c)&&d)&&l)&&lo)&&hi))||(!p))=(((((((((!f)||(!p))||(!a))||(!b))||(!c))||(!d))||(!l))||(!lo))||(!hi)):=by
 cases f<;>cases p<;>cases a<;>cases b<;>cases c<;>cases d<;>cases l<;>cases lo<;>cases hi<;>rfl
def fP(z:Bool×Int×Int×Int×Int×Int)(e:aW):Bool:=
 ((((((((!z.1)||(!decide ((List.length e.l:Int)=z.2.1)))||(!decide (e.op=z.2.2.1)))||(!decide (e.n=z.2.2.2.1)))||(!decide (e.o=z.2.2.2.2.1)))||(!decide (e.off=z.2.2.2.2.2)))||(!decide (e.len=0)))||(!decide (e.lo=0)))||(!decide (e.hi=0))
theorem oP(os:List Obj)(ent:Int)(e:aW):eu os ent e=fP (cu os ent e) e:=rfl
def oc(rec136:aj→Int→aW→Int→Int→Option (Int))(t0:aj)(entries1:Int)(e2:aW)(deep3:Int)(n4:Int)(parts174:Int)(fine175:Bool)(c01176:Int)(c02177:Int)(c03178:Int)(c04179:Int):Option Int:=
 (bif (((!fine175)||(!(((((((decide (e2.op=c01176))&&(decide (e2.n=c02177)))&&(decide (e2.o=c03178)))&&(decide (e2.off=c04179)))&&(decide (e2.len=0)))&&(decide (e2.lo=0)))&&(decide (e2.hi=0)))))||(!decide ((List.length e2.l:Int)=parts174))) then some (-1) else letk (λ(n186:Int)=>
 some n186) λk187=>
 (f136s_l1 rec136 t0 entries1 e2 deep3 k187 9223372036854775808 (IntKind.i64.wrap (n4 - 1)) 0))
theorem f136s_W(rec136:aj→Int→aW→Int→Int→Option (Int))(t:aj)(ent:Int)(e:aW)(deep left:Int):f136s rec136 t ent e deep left=
  (bif ((decide (left=0))||(decide (deep>64))) then some (-1) else
  bif (decide (e.kind=1)) then oc rec136 t ent e deep left 0 true 0 e.n 0 0 else
  bif (decide (e.kind=2)) then(Option.bind (f134 t e.o e.off 1) λr181=>Option.bind (bif r181 then(Option.bind (idx t.objs e.o) λx183=>some (!x183.ptr)) else some false) λb182=>oc rec136 t ent e deep left 0 b182 0 0 e.o e.off) else
  bif (decide (e.kind=14)) then oc rec136 t ent e deep left 0 ((decide (e.n≥0))&&(decide (e.n<ent))) 0 e.n 0 0 else
  bif (decide (e.kind=4)) then oc rec136 t ent e deep left 1 true 18 0 0 0 else
  bif (decide (e.kind=5)) then oc rec136 t ent e deep left 2 ((decide (e.op≥7))&&(decide (e.op≤15))) e.op 0 0 0 else
  bif (decide (e.kind=6)) then(bif decide (e.kind=6) then oc rec136 t ent e deep left 2 true 0 0 0 0 else some (-1)) else(bif decide (e.kind=7) then oc rec136 t ent e deep left 2 true 0 0 0 0 else some (-1))):=rfl
theorem u0(rec:aj→Int→aW→Int→Int→Option Int)(t:aj)(ent:Int)(e:aW)(deep left:Int)(g:Int→aW→Bool×Int)
  (hr:∀l x,0≤l→l≤256→rec t ent x (IntKind.i64.wrap (deep+1)) l=some (m8 (g l x)))(hg:∀l e,0≤l→l≤256→(g l e).1=true→0≤(g l e).2∧(g l e).2≤256)(h0:1≤left)(h1:left≤256)
  (parts:Int)(fine:Bool)(a b c d:Int)(hp:parts≤2):oc rec t ent e deep left parts fine a b c d=some (m8 (bif fP (fine,parts,a,b,c,d) e then(false,IntKind.i64.wrap (left - 1)) else exL g e.l (IntKind.i64.wrap (left - 1)))):=by
 unfold oc
 rw[p7]
 show(bif fP (fine,parts,a,b,c,d) e then _ else _)=_
 cases hs:fP (fine,parts,a,b,c,d) e
 ·have hl:(e.l.length:Int)=parts:=by
   unfold fP at hs
   simp only[Bool.or_eq_false_iff,Bool.not_eq_false',decide_eq_true_eq] at hs
   exact hs.1.1.1.1.1.1.1.2
  rw[cdF,cdF,ak,w64 oM oM,f136_loop rec t ent e deep g hr hg oM _ 0 0 _ rfl (Nat.zero_le _) oM oM oM,List.drop_zero]
 ·rfl
theorem f136s_eq(rec:aj→Int→aW→Int→Int→Option Int)(t:aj)(ent:Int)(e:aW)(deep left:Int)(g:Int→aW→Bool×Int)
  (hr:∀l x,deep≤64→0≤l→l≤256→rec t ent x (IntKind.i64.wrap (deep+1)) l=some (m8 (g l x)))(hg:∀l e,0≤l→l≤256→(g l e).1=true→0≤(g l e).2∧(g l e).2≤256)(h0:0≤left)(h1:left≤256):
  f136s rec t ent e deep left=some (m8 (bif (decide (IntKind.i64.wrap (left - 1)<0)||decide (deep>64))||eu t.objs ent e then(false,IntKind.i64.wrap (left - 1)) else exL g e.l (IntKind.i64.wrap (left - 1)))):=by
 rw[f136s_W]
 have e0:decide (IntKind.i64.wrap (left - 1)<0)=decide (left=0):=by
  rw[w64 oM oM]
  exact decide_eq_decide.2 oM
 rw[e0]
 cases hc:(decide (left=0)||decide (deep>64))
 ·simp only[Bool.or_eq_false_iff,decide_eq_false_iff_not] at hc
  have W:=u0 rec t ent e deep left g (λl x=>hr l x oM) hg oM h1
  rw[cdF,Bool.false_or,oP]
  unfold cu
  cases k1:decide (e.kind=1)
  ·cases k2:decide (e.kind=2)
   ·cases k3:decide (e.kind=14)
    ·cases k4:decide (e.kind=4)
     ·cases k5:decide (e.kind=5)
      ·cases k6:decide (e.kind=6)
       ·cases k7:decide (e.kind=7)
        ·rfl
        ·exact W 2 true 0 0 0 0 oM
       ·exact W 2 true 0 0 0 0 oM
      ·refine(W 2 _ e.op 0 0 0 oM).trans ?_
       have es:fP ((decide (e.op≥7)&&decide (e.op≤15)),2,e.op,0,0,0) e=fP (true,2,(if(if 15<e.op then 15 else e.op)>7 then(if 15<e.op then 15 else e.op) else 7),0,0,0) e:=by
        by_cases hh:7≤e.op∧e.op≤15
        ·have:(if(if 15<e.op then 15 else e.op)>7 then(if 15<e.op then 15 else e.op) else 7)=e.op:=by
          split<;>split at* <;>omega
         rw[this,dcT (show e.op≥7 from hh.1),dcT hh.2];rfl
        ·have:e.op≠(if(if 15<e.op then 15 else e.op)>7 then(if 15<e.op then 15 else e.op) else 7):=by
          split<;>split at* <;>omega
         have h2:(decide (e.op≥7)&&decide (e.op≤15))=false:=by
          rw[Bool.and_eq_false_iff]
          simp only[decide_eq_false_iff_not]
          omega
         unfold fP
         dsimp only
         rw[h2,dcF this]
         simp
       rw[es];rfl
     ·exact W 1 true 18 0 0 0 oM
    ·exact W 0 _ 0 e.n 0 0 oM
   ·rw[cdF,cdF,cdT,cdT,f134_eq t e.o e.off 1 oM,bnS]
    cases hs:spot t.objs e.o e.off 1
    ·exact W 0 false 0 0 e.o e.off oM
    ·obtain⟨y,hy,_⟩:=fg hs
     rw[cdT,hy,bnS,bnS]
     refine(W 0 _ 0 0 e.o e.off oM).trans ?_
     dsimp only
     cases y.ptr<;>rfl
  ·exact W 0 true 0 e.n 0 0 oM
 ·rfl
theorem f136_eq(t:aj)(ent:Int):∀(n:Nat)(deep left:Int)(e:aW),1≤deep→deep≤65→66<n+deep→0≤left→left≤256→f136 (n+1) t ent e deep left=some (m8 (exF t.objs ent n deep left e))
 |0,deep,left,e,h0,h1,h2,_,_=>oM
 |n+1,deep,left,e,h0,h1,h2,h3,h4=>by
  rw[f136,exF]
  refine f136s_eq (f136 (n+1)) t ent e deep left (exF t.objs ent n (deep+1)) (λl x hd a b=>?_) (λl x a b c=>qs t.objs ent n (deep+1) l x a b c) h3 h4
  rw[w64 oM oM]
  exact f136_eq t ent n (deep+1) l x oM oM oM a b
theorem f137_eq(t:aj)(a:Int):f137 t a=some (chk t a):=by
 unfold f137 chk
 have hat:f30 t a=at1 t a:=rfl
 rw[hat]
 cases h:at1 t a
 ·rw[de (λhh=>by rw[iC.2 hh] at h;cases h)];rfl
 ·obtain⟨y,hy,_⟩:=aR (iC.1 h)
  rw[hy]
  dsimp only[bnS,cdT]
  cases decide (y.op=27)<;>rfl
def ckQ(t:aj)(P:List ff)(x:ff):Bool:=(chk t x.at_&&(match P.getLast? with|none=>true|some y=>decide (y.at_<x.at_)))&& !(decide (x.kind<1)||decide (x.kind>5))
theorem wC{t:aj}{a:Int}(h:chk t a=true):0≤a:=by
 unfold chk at h
 cases hx:idx t.insns a with
 |none=>rw[hx] at h;cases h
 |some y=>exact(cR hx).1
theorem tM(t:aj):∀(r P:List ff),ji (ckQ t) P r=jS t (match P.getLast? with|none=> -1|some y=>y.at_) r
 |[],P=>rfl
 |x::r,P=>by
  rw[ji,jS,tM t r (P++ [x]),List.getLast?_append,ckQ]
  simp only[List.getLast?_singleton,Option.or_some,Option.getD_some]
  cases hc:chk t x.at_
  ·simp
  ·have:=wC hc
   cases P.getLast? with
   |none=>
    dsimp only
    rw[dcT (show(-1:Int)<x.at_ by omega)];simp
   |some y=>
    dsimp only
    cases decide (y.at_<x.at_)<;>simp
theorem f91_l3_eq(t:aj)(r:Option Bool)(hl:t.checks.length<9223372036854775808)(n:Nat)(hn:n=9223372036854775808):f91_l3 t (λ_=>r) n 0=bif jS t (-1) t.checks then r else some false:=by
 rw[show jS t (-1) t.checks=ji (ckQ t) [] t.checks from(tM t _ []).symm]
 refine qJ t.checks (f91_l3 t λ_=>r) r (ckQ t) n hn hl (λm i hi=>?_) (λm=>by rw[f91_l3,dq,cdF])
 rw[f91_l3,dO hi,cdT,aA hi,bnS,w1 hi hl,f137_eq,bnS]
 have hprev:i≠0→idx t.checks (IntKind.i64.wrap ((i:Int) - 1))=(t.checks.take i).getLast? :=λh0=>by
  rw[w64 oM oM,show(i:Int) - 1=((i - 1:Nat):Int) by omega,aA oM,List.getLast?_eq_getElem?,List.length_take,List.getElem?_take_of_lt oM,show min i t.checks.length - 1=i - 1 by omega,geG]
 generalize hx:t.checks[i]=x
 unfold ckQ
 by_cases h0:i=0
 ·subst h0
  rw[dcF (show¬((0:Nat):Int)>0 by omega)]
  cases chk t x.at_<;>cases decide (x.kind<1)<;>cases decide (x.kind>5)<;>rfl
 ·rw[dcT (show((i:Nat):Int)>0 by omega),hprev h0]
  have hs:∃y,(t.checks.take i).getLast? =some y:=by
   rw[←hprev h0,w64 oM oM,show(i:Int) - 1=((i - 1:Nat):Int) by omega,aA oM]
   exact⟨_,rfl⟩
  obtain⟨y,hy⟩:=hs
  rw[hy]
  dsimp only[cdT,bnS]
  have e:decide (y.at_≥x.at_)= !(decide (y.at_<x.at_)):=by
   by_cases h:y.at_<x.at_
   ·rw[dcT h,dcF oM];rfl
   ·rw[dcF h,dcT oM];rfl
  rw[e]
  cases chk t x.at_<;>cases decide (y.at_<x.at_)<;>cases decide (x.kind<1)<;>cases decide (x.kind>5)<;>rfl
theorem f91_l1_eq(t:aj)(r:Option Bool)(hl:t.prots.length<9223372036854775808)(n:Nat)(hn:n=9223372036854775808):f91_l1 t (λ_=>r) n 0=bif t.prots.all (g' t) then r else some false:=by
 refine fW t.prots (f91_l1 t λ_=>r) r (g' t) n hn hl (λm i hi=>?_) (λm=>by rw[f91_l1,dq,cdF])
 rw[f91_l1,dO hi,cdT,ak,aA hi,bnS,w1 hi hl]
 generalize t.prots[i]=x
 unfold g'
 cases hc:(decide (x.ceiling<0)||decide (x.ceiling>31))||decide ((x.barriers.length:Int)>8)
 ·have he:(x.barriers.length:Int)≤8:=by
   simp only[Bool.or_eq_false_iff,decide_eq_false_iff_not] at hc
   omega
  rw[cdF,fW x.barriers (f91_l2 t (λ_ _=>f91_l1 t (λ_=>r) m ((i+1:Nat):Int)) x) (f91_l1 t (λ_=>r) m ((i+1:Nat):Int)) (mu t x.barriers.length) _ rfl oM (λk j hj=>by
   rw[f91_l2,dO hj,cdT,aA hj,bnS,w1 hj oM,f136_eq t _ 66 1 256 _ oM oM oM oM oM,bnS]
   unfold mu m8
   have hle:=qs t.objs x.barriers.length 66 1 256 x.barriers[j] oM oM
   cases hb:(exF t.objs x.barriers.length 66 1 256 x.barriers[j]).1
   ·rfl
   ·have:=hle hb
    rw[cdT,dcF oM];rfl) (λk=>by rw[f91_l2,dq,cdF])]
  cases x.barriers.all (mu t x.barriers.length)<;>rfl
 ·rfl
theorem f91_eq(t:aj)(hl:t.checks.length<9223372036854775808):f91 t=some (jh t&&jS t (-1) t.checks):=by
 unfold f91 jh
 by_cases h:(t.prots.length:Int)≤32
 ·rw[dcT h,dcF (show¬(t.prots.length:Int)>32 by omega),cdF,ak,ak,f91_l1_eq t _ oM _ rfl,f91_l3_eq t _ hl _ rfl]
  cases t.prots.all (g' t)<;>cases jS t (-1) t.checks<;>rfl
 ·rw[dcF h,dcT (show(t.prots.length:Int)>32 by omega),Bool.and_false];rfl
def rQ(c:Int):Bool:=decide (c=68)||(decide (c=65)||(decide (c=66)||(decide (c=78)||(decide (c=77)||decide (c=84)))))
def mt:List Field→List (Int×Int)→Bool
 |[],[]=>true
 |f::F,(c,w)::L=>decide (f.name=c)&&(decide (f.lo=(f179 w).1)&&(decide (f.hi=(f179 w).2)&&(rQ c&&(F.all (λg=> !(decide (g.name=c)))&&mt F L))))
 |_,_=>false
def goF(x:aB):List Field→aB→Bool
 |[],c=>(decide (c.op=0))&&((decide (c.d=0))&&((decide (c.a=0))&&((decide (c.b=0))&&((decide (c.n=0))&&((decide (c.m=0))&&((decide (c.to=0))&&true))))))
 |f::F,c=> !((decide ((f161 x f.name)<f.lo))||(decide ((f161 x f.name)>f.hi)))&&goF x F (f162 c f.name 0)
theorem gG{c:Int}(h:rQ c=true):c=68∨c=65∨c=66∨c=78∨c=77∨c=84:=by
 unfold rQ at h
 simpa only[Bool.or_eq_true,decide_eq_true_eq] using h
theorem f161_set{c:aB}{a b:Int}(ha:rQ a=true)(hb:rQ b=true)(h:b≠a):f161 (f162 c a 0) b=f161 c b:=by
 rcases gG ha with rfl|rfl|rfl|rfl|rfl|rfl<;>rcases gG hb with rfl|rfl|rfl|rfl|rfl|rfl<;>first|exact absurd rfl h|rfl
theorem f162_op(c:aB)(a:Int):(f162 c a 0).op=c.op:=by
 unfold f162
 rw[ak]
 cases decide (a=68)<;>cases decide (a=65)<;>cases decide (a=66)<;>cases decide (a=78)<;>cases decide (a=77)<;>rfl
theorem qi:∀{F:List Field}{L:List (Int×Int)},mt F L=true→∀f∈F,rQ f.name=true
 |[],_,_,f,hf=>by cases hf
 |g::F,[],h,_,_=>by cases h
 |g::F,(c,w)::L,h,f,hf=>by
  simp only[mt,Bool.and_eq_true,decide_eq_true_eq] at h
  rcases List.mem_cons.1 hf with rfl|hf
  ·rw[h.1];exact h.2.2.2.1
  ·exact qi h.2.2.2.2.2 f hf
theorem tp(x:aB):∀(F:List Field)(L:List (Int×Int))(c:aB),mt F L=true→(∀f∈F,f161 c f.name=f161 x f.name)→c.op=0→goF x F c=fl L c.d c.a c.b c.n c.m c.to
 |[],[],c,_,_,h=>by rw[goF,fl,h];rfl
 |[],_::_,c,h,_,_=>by cases h
 |_::_,[],c,h,_,_=>by cases h
 |f::F,(ch,w)::L,c,h,hc,h0=>by
  have hs:=qi h
  simp only[mt,Bool.and_eq_true,decide_eq_true_eq] at h
  obtain⟨h1,h2,h3,h4,h5,h6⟩:=h
  have hne:∀g∈F,g.name≠ch:=λg hg=>by
   have:=List.all_eq_true.1 h5 g hg
   simpa using this
  have ih:=tp x F L (f162 c f.name 0) h6 (λg hg=>by
   rw[f161_set (hs f List.mem_cons_self) (hs g (List.mem_cons_of_mem _ hg)) (by rw[h1];exact hne g hg)]
   exact hc g (List.mem_cons_of_mem _ hg)) (by rw[f162_op];exact h0)
  rw[goF,ih,←hc f List.mem_cons_self,h2,h3,h1]
  rcases gG h4 with rfl|rfl|rfl|rfl|rfl|rfl<;>rfl
theorem f139_l1_eq(x:aB)(r:Row×Bool)(E:Bool)(hl:r.1.fields.length<9223372036854775808):∀(n i:Nat)(z:Int)(c:aB),z=(i:Int)→i≤r.1.fields.length→r.1.fields.length<n+i→
  f139_l1 x r (λo d a b n m t=>some (((decide (o=0))&&((decide (d=0))&&((decide (a=0))&&((decide (b=0))&&((decide (n=0))&&((decide (m=0))&&((decide (t=0))&&true)))))))&&E)) n z c.op c.d c.a c.b c.n c.m c.to=some (goF x (r.1.fields.drop i) c&&E)
 |0,i,z,c,_,_,h=>oM
 |n+1,i,z,c,hz,hi,h=>by
  subst hz
  rw[f139_l1]
  by_cases hh:i<r.1.fields.length
  ·rw[aM hh,goF,dO hh,cdT,aA hh,bnS,w1 hh hl]
   have ih:=f139_l1_eq x r E hl n (i+1) _ (f162 c (r.1.fields[i]).name 0) rfl oM oM
   have ec:aB.mk c.op c.d c.a c.b c.n c.m c.to=c:=rfl
   rw[ec,ih]
   generalize r.1.fields[i]=f
   cases ((decide ((f161 x f.name)<f.lo))||(decide ((f161 x f.name)>f.hi)))<;>rfl
  ·have e:i=r.1.fields.length:=oM
   subst e
   rw[dq,cdF,List.drop_eq_nil_of_le (Nat.le_refl _)];rfl
theorem f160_l1_eq(o:Int)(k:Option (Row×Bool))(hf:∀r∈f201,r.op≠o):∀(n i:Nat)(z:Int),z=(i:Int)→i≤f201.length→f201.length<n+i→f160_l1 o (λ_=>k) n z=k
 |0,i,z,_,_,h=>oM
 |n+1,i,z,hz,hi,h=>by
  subst hz
  have h57:f201.length=57:=rfl
  rw[f160_l1]
  by_cases hh:i<f201.length
  ·rw[dO hh,cdT,aA hh,bnS,dcF (hf _ (List.getElem_mem hh)),cdF,w1 hh oM]
   exact f160_l1_eq o k hf n (i+1) _ rfl oM oM
  ·have e:i=f201.length:=oM
   subst e
   rw[dq,cdF]
theorem f201_ops:(f201.all λr=>decide (1≤r.op)&&decide (r.op≤57))=true:=by decide+kernel
theorem f160_ok:∀k,k<57→(match f160 ((k:Nat)+1:Int) with|some r=>r.2&&(Nat.blt r.1.fields.length 100&&mt r.1.fields (jo ((k:Nat)+1:Int)))|none=>false)=true:=by decide+kernel
theorem f160_out{o:Int}(h:¬(1≤o∧o≤57)):f160 o=some ((Row.mk 0 ByteArray.empty []),false):=by
 unfold f160
 rw[ak]
 refine f160_l1_eq o _ (λr hr he=>?_) _ 0 0 rfl (Nat.zero_le _) (by have h57:f201.length=57:=rfl;omega)
 have:=List.all_eq_true.1 f201_ops r hr
 simp only[Bool.and_eq_true,decide_eq_true_eq] at this
 omega
theorem uL:jo 37=[(78,107),(77,115)]:=by decide+kernel
theorem f139_eq(x:aB):f139 x=some (eP x):=by
 unfold f139 eP
 by_cases h:1≤x.op∧x.op≤57
 ·obtain⟨k,hk⟩:∃k:Nat,x.op=(k:Int)+1:=⟨(x.op - 1).toNat,oM⟩
  have hf:=f160_ok k oM
  rw[←hk] at hf
  cases hr:f160 x.op with
  |none=>rw[hr] at hf;cases hf
  |some r=>
   rw[hr] at hf
   dsimp only at hf
   simp only[Bool.and_eq_true] at hf
   obtain⟨h2,h3,h4⟩:=hf
   have hlen:r.1.fields.length<100:=by simpa[Nat.blt_eq] using h3
   rw[bnS,h2,Bool.not_true,cdF,ak]
   have key:=f139_l1_eq x r (((!decide (x.op=27))||(decide (x.n≤x.m)))&&(((!decide (x.op=37))||(!decide (x.n=6)))||(decide (x.m=0)))) oM 9223372036854775808 0 0 (aB.mk 0 x.d x.a x.b x.n x.m x.to) rfl (Nat.zero_le _) oM
   rw[List.drop_zero,tp x _ _ _ h4 (λf hf=>by
    have:=qi h4 f hf
    rcases gG this with e|e|e|e|e|e<;>rw[e]<;>rfl) rfl] at key
   have e1:decide (1≤x.op)=true:=dcT h.1
   have e2:decide (x.op≤57)=true:=dcT h.2
   have e3:decide (x.n>x.m)= !(decide (x.n≤x.m)):=by
    by_cases hh:x.n≤x.m
    ·rw[dcT hh,dcF oM];rfl
    ·rw[dcF hh,dcT oM];rfl
   rw[e1,e2,e3]
   refine Eq.trans ?_ (key.trans ?_)
   ·simp only[Bool.and_assoc]
   ·dsimp only
    congr 1
    cases hfl:fl (jo x.op) x.d x.a x.b x.n x.m x.to
    ·simp
    ·by_cases h37:x.op=37
     ·have hn:6≤x.n∧x.n≤7:=by
       rw[h37,uL] at hfl
       simp only[fl,rng,f179] at hfl
       simp at hfl
       omega
      have:IntKind.u8.wrap x.n=x.n:=by
       rcases(show x.n=6∨x.n=7 by omega) with e|e<;>rw[e]<;>rfl
      rw[this]
      cases decide (x.op=27)<;>cases decide (x.n≤x.m)<;>cases decide (x.op=37)<;>cases decide (x.n=6)<;>cases decide (x.m=0)<;>rfl
     ·rw[dcF h37]
      cases decide (x.op=27)<;>cases decide (x.n≤x.m)<;>cases decide (x.n=6)<;>cases decide (x.m=0)<;>simp
 ·rw[f160_out h]
  have e2:(decide (1≤x.op)&&decide (x.op≤57))=false:=by
   rw[Bool.and_eq_false_iff]
   simp only[decide_eq_false_iff_not]
   omega
  rw[e2];rfl
theorem f140_eq(t:aj)(a m:Int)(h0:0≤a)(h1:0≤m)(h2:a≤65536)(h3:m≤65536)(hl:t.insns.length≤65536):f140 t a m=some (decide ((IntKind.i64.wrap (a+m))≤(t.insns.length:Int))&&(cC t.insns a (IntKind.i64.wrap (a+m))).all (λy=>decide (y.op=29))):=by
 unfold f140
 rw[w64 oM oM]
 by_cases h:a+m≤(t.insns.length:Int)
 ·rw[dcT h,dcF (show¬a+m>(t.insns.length:Int) by omega),cdF,ak]
  have hL:(t.insns.take (a+m).toNat).length=(a+m).toNat:=by rw[List.length_take];omega
  have:=wG (t.insns.take (a+m).toNat) (f140_l1 t a m λ_=>some true) (some true) (λy=>decide (y.op=29)) oM (λn i hi=>by
   rw[f140_l1,w64 (x:=a+m) oM oM,dcT (show(i:Int)<a+m by omega),cdT,aA oM,bnS,w1 (n:=t.insns.length) oM oM,List.getElem_take]
   generalize t.insns[i]=y
   cases decide (y.op=29)<;>rfl) (λn=>by
   rw[f140_l1,w64 (x:=a+m) oM oM,dcF (show¬(((t.insns.take (a+m).toNat).length:Nat):Int)<a+m by omega),cdF]) 9223372036854775808 a.toNat a oM oM oM
  rw[this]
  have e:cC t.insns a (a+m)=(t.insns.take (a+m).toNat).drop a.toNat:=by
   rw[cC,List.drop_take]
  rw[e]
  cases ((t.insns.take (a+m).toNat).drop a.toNat).all (λy=>decide (y.op=29))<;>rfl
 ·rw[dcF h,dcT (show a+m>(t.insns.length:Int) by omega)];rfl
theorem f141_eq(t:aj)(a n:Int)(hl:∀x∈t.tasks,x.entries.length<9223372036854775808):∃e,f141 t a n=some (e,(ms t a n).2)∧((ms t a n).2=true→(∃x∈t.tasks,e∈x.entries)∧IntKind.i64.wrap (IntKind.i64.wrap ((List.length e.ins:Int)+(List.length e.outs:Int))+1)=(ms t a n).1):=by
 unfold f141 ms
 by_cases h:0≤a∧a<t.tasks.length
 ·obtain⟨y,hy,hym⟩:=aR h
  rw[hy,dcF (show¬a<0 by omega),dcF (show¬a≥(t.tasks.length:Int) by omega)]
  dsimp only[bnS]
  by_cases h2:0≤n∧n<y.entries.length
  ·obtain⟨e,he,hem⟩:=aR h2
   rw[he,dcF (show¬n<0 by omega)]
   simp only[Bool.or_self,cdF,bnS]
   rw[dcF (show¬n≥(y.entries.length:Int) by omega)]
   exact⟨e,rfl,λ_=>⟨⟨y,hym,hem⟩,rfl⟩⟩
  ·rw[de h2]
   by_cases h3:n<0
   ·rw[dcT h3];exact⟨_,rfl,λh=>by cases h⟩
   ·rw[dcF h3]
    simp only[Bool.or_self,cdF,bnS]
    rw[dcT (show n≥(y.entries.length:Int) by omega)];exact⟨_,rfl,λh=>by cases h⟩
 ·rw[de h]
  have:(decide (a<0)||decide (a≥(t.tasks.length:Int)))=true:=by
   rw[Bool.or_eq_true]
   simp only[decide_eq_true_eq]
   omega
  rw[this];exact⟨_,rfl,λh=>by cases h⟩
theorem f142_eq(t:aj)(p n:Int):f142 t p n=some (rP t p n):=by
 unfold f142 rP
 by_cases h:0≤p∧p<t.prots.length
 ·obtain⟨y,hy,_⟩:=aR h
  rw[hy,dcT (show p≥0 by omega),dcT h.2]
  by_cases h3:0≤n
  ·rw[dcT (show n≥0 from h3)];rfl
  ·rw[dcF (show¬n≥0 from h3)];rfl
 ·rw[de h]
  have:(decide (p≥0)&&decide (p<(t.prots.length:Int)))=false:=by
   rw[Bool.and_eq_false_iff]
   simp only[decide_eq_false_iff_not]
   omega
  rw[this];rfl
theorem vl:jo 5=[(68,114),(65,114),(66,108),(78,111),(77,115)]:=by decide+kernel
theorem vk:jo 6=[(68,114),(65,114),(66,108),(78,111),(77,115)]:=by decide+kernel
theorem wx:jo 43=[(68,114),(78,101),(77,113)]:=by decide+kernel
theorem wv:jo 52=[(65,112),(66,101),(78,98),(84,115)]:=by decide+kernel
theorem ql{x:aB}(h:eP x=true)(ho:x.op=5∨x.op=6):0≤x.b:=by
 unfold eP at h
 have e:jo x.op=[(68,114),(65,114),(66,108),(78,111),(77,115)]:=by
  rcases ho with e|e<;>rw[e]
  ·exact vl
  ·exact vk
 rw[e] at h
 simp only[Bool.and_eq_true] at h
 have:=h.2.2
 simp only[fl,rng,f179] at this
 simp at this
 omega
theorem wo{x:aB}(h:eP x=true)(ho:x.op=43): -1≤x.m:=by
 unfold eP at h
 rw[ho,wx] at h
 simp only[Bool.and_eq_true] at h
 have:=h.2.2
 simp only[fl,rng,f179] at this
 simp at this
 omega
theorem wn{x:aB}(h:eP x=true)(ho:x.op=52):0≤x.to:=by
 unfold eP at h
 rw[ho,wv] at h
 simp only[Bool.and_eq_true] at h
 have:=h.2.2
 simp only[fl,rng,f179] at this
 simp at this
 omega
theorem rV{t:aj}(hT:eO t=true){x:eL}(hx:x∈t.tasks){e:cr}(he:e∈x.entries):(e.ins.length:Int)≤8∧(e.outs.length:Int)≤8:=by
 unfold eO at hT
 rw[Bool.and_eq_true] at hT
 have:=List.all_eq_true.1 hT.2 x hx
 unfold gv at this
 rw[Bool.and_eq_true] at this
 have:=List.all_eq_true.1 this.2 e he
 unfold eV eD at this
 simp only[Bool.and_eq_true,decide_eq_true_eq] at this
 exact⟨this.1.1,this.2.1⟩
theorem qt{t:aj}(hT:eO t=true):∀x∈t.tasks,x.entries.length<9223372036854775808:=λx hx=>by
 unfold eO at hT
 rw[Bool.and_eq_true] at hT
 have:=List.all_eq_true.1 hT.2 x hx
 unfold gv at this
 simp only[Bool.and_eq_true,Bool.not_eq_true',Bool.or_eq_false_iff,decide_eq_false_iff_not] at this
 omega
theorem f95_eq(t:aj)(x:aB)(hT:eO t=true)(hl:t.insns.length≤65536):f95 t x=some (gJ t x):=by
 unfold f95 gJ
 rw[f139_eq,bnS]
 cases hm:eP x
 ·rfl
 ·rw[Bool.not_true,cdF,Bool.true_and]
  simp only[ak,f142_eq]
  have hat:f30 t x.to=at1 t x.to:=rfl
  rw[hat,f134_eq t x.n x.m 1 oM]
  cases decide (x.op=3)
  ·cases decide (x.op=4)
   ·cases h5:decide (x.op=5)
    ·cases h6:decide (x.op=6)
     ·cases decide (x.op=29)
      ·cases decide (x.op=30)
       ·cases decide (x.op=31)
        ·cases h32:decide (x.op=32)
         ·cases decide (x.op=33)
          ·cases decide (x.op=44)
           ·cases decide (x.op=45)
            ·cases decide (x.op=46)
             ·cases decide (x.op=56)
              ·cases decide (x.op=50)
               ·obtain⟨e,he,hn⟩:=f141_eq t x.a x.b (qt hT)
                rw[he]
                cases decide (x.op=49)
                ·cases h52:decide (x.op=52)
                 ·cases decide (x.op=53)
                  ·cases decide (x.op=55)
                   ·cases decide (x.op=54)
                    ·cases h43:decide (x.op=43)
                     ·rfl
                     ·have:=wo hm (of_decide_eq_true h43)
                      have e:decide (x.m= -1)=decide (x.m<0):=decide_eq_decide.2 oM
                      rw[e]
                      cases decide (x.m<0)<;>rfl
                    ·rfl
                   ·rfl
                  ·rfl
                 ·have:=wn hm (of_decide_eq_true h52)
                  have e:at1 t x.to=decide (x.to<(t.insns.length:Int)):=by
                   unfold at1
                   rw[dcT (show x.to≥0 from this),Bool.true_and]
                  rw[e];rfl
                ·cases hs:(ms t x.a x.b).2
                 ·rfl
                 ·obtain⟨⟨y,hy,hem⟩,hw⟩:=hn hs
                  have:=rV hT hy hem
                  dsimp only[cdT,cdF,bnS,Bool.or_false,Bool.true_and]
                  rw[hw,f134_eq t x.n 0 _ (by
                   rw[←hw,w64 (x:=(List.length e.ins:Int)+(List.length e.outs:Int)) oM oM,w64 oM oM]
                   omega)]
                  rfl
               ·rfl
              ·rfl
             ·rfl
            ·rfl
           ·rfl
          ·rfl
         ·obtain⟨a1,a2,a3,a4⟩:=qm hm (of_decide_eq_true h32)
          rw[f140_eq t x.to x.m a1 oM oM a4 hl]
          rfl
        ·rfl
       ·rfl
      ·rfl
     ·rw[f134_eq t x.n x.m x.b (ql hm (.inr (of_decide_eq_true h6)))];rfl
    ·rw[f134_eq t x.n x.m x.b (ql hm (.inl (of_decide_eq_true h5)))];rfl
   ·rfl
  ·rfl
theorem qf:∀(N:Nat)(L:List Nat),L.Nodup→(∀x∈L,x<N)→L.length≤N
 |0,[],_,_=>Nat.le_refl _
 |0,x::L,_,h=>absurd (h x List.mem_cons_self) (Nat.not_lt_zero _)
 |N+1,L,hn,h=>by
  by_cases hm:N∈L
  ·have h1:=List.length_erase_of_mem hm
   have h2:=qf N (L.erase N) (hn.erase N) (λx hx=>by
    have h3:=h x (List.mem_of_mem_erase hx)
    have h4:x≠N:=λe=>by subst e;exact hn.not_mem_erase hx
    omega)
   omega
  ·have:=qf N L hn (λx hx=>by
    have h3:=h x hx
    have h4:x≠N:=λe=>hm (e▸hx)
    omega)
   omega
def szS(L:List Obj):Nat:=(L.map λo=>o.size.toNat).sum
theorem qD:∀(L:List Obj)(a:Int),(∀o∈L,1≤o.size∧o.size≤16384)→0≤a→a+16384*(L.length:Int)≤9223372036854775807→nN a L=a+(szS L:Int)
 |[],a,_,_,_=>by simp[nN,szS]
 |o::L,a,h,h0,h1=>by
  have ho:=h o List.mem_cons_self
  have hl:((o::L).length:Int)=(L.length:Int)+1:=sM
  rw[hl] at h1
  have ih:=qD L (a+o.size) (λx hx=>h x (List.mem_cons_of_mem _ hx)) oM oM
  have e1:nN a (o::L)=nN (a+o.size) L:=by
   show nN (IntKind.i64.wrap (a+o.size)) L=_
   rw[w64 oM oM]
  have e2:szS (o::L)=o.size.toNat+szS L:=by simp[szS]
  rw[e1,ih,e2]
  push_cast
  omega
theorem jB{L:List Obj}{i:Nat}(h:i<L.length):szS (L.take (i+1))=szS (L.take i)+L[i].size.toNat:=by
 unfold szS
 rw[List.take_succ_eq_append_getElem h,List.map_append,List.sum_append,List.map_cons,List.map_nil,List.sum_cons,List.sum_nil,Nat.add_zero]
theorem lG{L:List Obj}:∀{i j:Nat},i≤j→szS (L.take i)≤szS (L.take j):=by
 intro i j h
 induction h with
 |refl=>exact Nat.le_refl _
 |step h ih=>
  rename_i m
  by_cases hm:m<L.length
  ·rw[jB hm];omega
  ·have e:L.take (m+1)=L.take m:=by rw[List.take_of_length_le oM,List.take_of_length_le oM]
   rw[e];exact ih
def pos(os:List Obj)(x:d3):Nat:=szS (os.take x.o.toNat)+x.slot.toNat
theorem jn{os:List Obj}(ho:∀o∈os,1≤o.size∧o.size≤16384){x:d3}(h:d6 os x=true):0≤x.o∧x.o.toNat<os.length∧0≤x.slot∧∀h:x.o.toNat<os.length,x.slot.toNat<os[x.o.toNat].size.toNat:=by
 unfold d6 at h
 rw[Bool.and_eq_true] at h
 obtain⟨y,hy,h1,h2⟩:=fg h.1
 have hb:=cR hy
 have hsz:=ho y (cy hy)
 rw[w64 oM oM] at h2
 refine⟨hb.1,oM,h1,λhh=>?_⟩
 have e:os[x.o.toNat]=y:=by
  have:=aA hh
  rw[show((x.o.toNat:Nat):Int)=x.o by omega,hy] at this
  exact(inS this).symm
 rw[e]
 omega
theorem wd{os:List Obj}(ho:∀o∈os,1≤o.size∧o.size≤16384){x:d3}(h:d6 os x=true):pos os x<szS os:=by
 obtain⟨_,h1,_,h2⟩:=jn ho h
 have h3:=h2 h1
 have h4:=jB h1
 have h5:=lG (L:=os) (i:=x.o.toNat+1) (j:=os.length) oM
 rw[List.take_length] at h5
 unfold pos
 omega
theorem uy{os:List Obj}(ho:∀o∈os,1≤o.size∧o.size≤16384){x y:d3}(hx:d6 os x=true)(hy:d6 os y=true)(h:pos os x=pos os y):x.o=y.o∧x.slot=y.slot:=by
 obtain⟨a0,a1,a2,a3⟩:=jn ho hx
 obtain⟨b0,b1,b2,b3⟩:=jn ho hy
 have a4:=a3 a1
 have b4:=b3 b1
 have a5:=jB a1
 have b5:=jB b1
 unfold pos at h
 rcases Nat.lt_trichotomy x.o.toNat y.o.toNat with hlt|heq|hgt
 ·have:=lG (L:=os) (i:=x.o.toNat+1) (j:=y.o.toNat) hlt
  omega
 ·rw[heq] at h
  omega
 ·have:=lG (L:=os) (i:=y.o.toNat+1) (j:=x.o.toNat) hgt
  omega
theorem kQ{os:List Obj}(ho:∀o∈os,1≤o.size∧o.size≤16384):∀(r P:List d3),ig os P r=true→(∀x∈P,d6 os x=true)→(P.map (pos os)).Nodup→((P++r).map (pos os)).Nodup∧∀x∈P++r,d6 os x=true
 |[],P,_,h1,h2=>by rw[List.append_nil];exact⟨h2,h1⟩
 |x::r,P,h,h1,h2=>by
  rw[ig] at h
  simp only[Bool.and_eq_true] at h
  obtain⟨⟨hx,hP⟩,hr⟩:=h
  have ih:=kQ ho r (P++ [x]) hr (λy hy=>by
   rcases List.mem_append.1 hy with hy|hy
   ·exact h1 y hy
   ·rw[List.mem_singleton] at hy;subst hy;exact hx) (by
   rw[List.map_append,List.nodup_append]
   refine⟨h2,sM,λa ha b hb=>?_⟩
   simp only[List.map_cons,List.map_nil,List.mem_singleton] at hb
   subst hb
   intro e
   obtain⟨y,hy,rfl⟩:=List.mem_map.1 ha
   have hi:=uy ho (h1 y hy) hx e
   have:=List.all_eq_true.1 hP y hy
   unfold neI at this
   rw[dcT hi.1,dcT hi.2] at this
   cases this)
  rw[List.append_assoc,List.singleton_append] at ih
  exact ih
theorem nn{os:List Obj}(h:os.all (ef os)=true):∀o∈os,1≤o.size∧o.size≤16384:=λo ho=>by
 have:=List.all_eq_true.1 h o ho
 unfold ef at this
 simp only[Bool.and_eq_true,Bool.not_eq_true',Bool.or_eq_false_iff,decide_eq_false_iff_not] at this
 omega
theorem f89_eq(t:aj)(hl:t.inits.length<9223372036854775808)(hs:∀o∈t.objs,o.set_.length<9223372036854775808):f89 t=some (jK t):=by
 unfold f89 jK
 cases h1:(decide ((t.objs.length:Int)>4096)||decide (t.excs<4))||decide (t.excs>64)
 ·have hol:(t.objs.length:Int)≤4096:=by
   simp only[Bool.or_eq_false_iff,decide_eq_false_iff_not] at h1
   omega
  rw[Bool.false_or,Bool.not_false,Bool.true_and]
  have hi:ig t.objs [] t.inits=dt t.objs [] t.inits:=nt t.objs t.inits []
  have core:f89_l1 t (λn111=>letk (λ(_:Unit)=>some (decide (n111≤65536))) λk122=>f89_l2 t k122 9223372036854775808 0) 9223372036854775808 0 0=some (t.objs.all (ef t.objs)&&(dt t.objs [] t.inits&&decide (nN 0 t.objs≤65536))):=by
   rw[f89_l1_eq t _ oM hs _ 0 0 0 rfl (Nat.zero_le _) oM,List.drop_zero]
   cases t.objs.all (ef t.objs)
   ·rfl
   ·rw[cdT,ak,f89_l2_eq t _ hl hs _ 0 0 rfl (Nat.zero_le _) oM,List.drop_zero,List.take_zero,hi]
    cases dt t.objs [] t.inits<;>rfl
  by_cases h2:(t.inits.length:Int)>65536
  ·rw[dcT h2,cdT]
   congr 1
   cases ha:t.objs.all (ef t.objs)
   ·rfl
   ·have ho:=nn ha
    rw[Bool.true_and]
    cases hb:dt t.objs [] t.inits
    ·rfl
    ·rw[Bool.true_and]
     have hn:=kQ ho t.inits [] (by rw[hi];exact hb) (λx hx=>by cases hx) List.nodup_nil
     rw[List.nil_append] at hn
     have hp:=qf (szS t.objs) (t.inits.map (pos t.objs)) hn.1 (λx hx=>by
      obtain⟨y,hy,rfl⟩:=List.mem_map.1 hx
      exact wd ho (hn.2 y hy))
     rw[List.length_map] at hp
     have hS:=qD t.objs 0 ho oM oM
     rw[dcF]
     omega
  ·rw[dcF h2,cdF,ak]
   exact core
 ·rw[Bool.true_or];rfl
theorem f48_l1_eq(t:aj)(r:Option Bool)(hT:eO t=true)(hl:t.insns.length≤65536)(n:Nat)(hn:n=9223372036854775808):f48_l1 t (λ_=>r) n 0=bif t.insns.all (gJ t) then r else some false:=by
 refine fW t.insns (f48_l1 t λ_=>r) r (gJ t) n hn oM (λm i hi=>?_) (λm=>by rw[f48_l1,dq,cdF])
 rw[f48_l1,dO hi,cdT,aA hi,bnS,w1 hi oM,f95_eq t _ hT hl,bnS]
 cases gJ t t.insns[i]<;>rfl
theorem f48_eq(t:aj)(h:Sz t)(ha:SzA t):f48 t=some (MayB t):=by
 unfold f48 MayB
 cases h1:decide ((t.insns.length:Int)<1)||decide ((t.insns.length:Int)>65536)
 ·have hol:(1:Int)≤t.insns.length∧(t.insns.length:Int)≤65536:=by
   simp only[Bool.or_eq_false_iff,decide_eq_false_iff_not] at h1
   omega
  rw[cdF,f89_eq t h.inits h.sets,f90_eq,f91_eq t h.checks,f93_eq,f94_eq]
  cases hO:jK t
  ·simp
  ·cases hT:eO t
   ·simp
   ·have ho:∀o∈t.objs,1≤o.size∧o.size≤16384:=by
     unfold jK at hO
     simp only[Bool.and_eq_true] at hO
     exact nn hO.2.1
    rw[f92_eq t ha (λo y hy=>by have:=ho y (cy hy);omega)]
    obtain⟨x,hx,_⟩:=aR (L:=t.insns) (i:=(t.insns.length:Int) - 1) oM
    rw[ak,w64 oM oM,f48_l1_eq t _ hT oM _ rfl]
    unfold qU
    rw[hx]
    dsimp only[bnS]
    have e:nY x=(((decide (x.op=29)||decide (x.op=33))||decide (x.op=34))||decide (x.op=57)):=by
     unfold nY
     simp only[Bool.or_assoc]
    rw[e]
    generalize(((decide (x.op=29)||decide (x.op=33))||decide (x.op=34))||decide (x.op=57))=b0
    generalize t.insns.all (gJ t)=b9
    cases jh t
    ·simp
    ·cases jS t (-1) t.checks
     ·simp
     ·cases lR t
      ·simp
      ·cases jl t
       ·simp
       ·cases kS t
        ·simp
        ·cases qk t
         ·simp
         ·cases b0<;>cases b9<;>rfl
 ·rfl
theorem f49_l2_eq(t:aj)(j:Nat)(hj:j<t.objs.length)(hs:t.objs[j].set_.length<9223372036854775808)(r:List Int→Option (List (List Int)))(hf:fits t.objs[j] 0=false)(N:Nat)(hN:N<9223372036854775807):∀(n i:Nat)(z:Int),z=(i:Int)→i≤N→N<n+i→
  f49_l2 t (j:Int) r n z (List.replicate i t.objs[j].lo++List.replicate (N - i) 0)=r (List.replicate N t.objs[j].lo)
 |0,i,z,_,_,h=>oM
 |n+1,i,z,hz,hi,h=>by
  subst hz
  have hL:(List.replicate i t.objs[j].lo++List.replicate (N - i) (0:Int)).length=N:=by simp;omega
  rw[f49_l2,hL]
  by_cases hh:i<N
  ·rw[dO hh,cdT,aA hj,bnS,f34_eq _ _ hs,bnS,hf]
   simp only[Bool.not_false,bnS,cdT]
   rw[aA oM,bnS,w1 hh oM]
   simp only[Int.toNat_natCast]
   have e:(List.replicate i t.objs[j].lo++List.replicate (N - i) (0:Int)).set i t.objs[j].lo=List.replicate (i+1) t.objs[j].lo++List.replicate (N - (i+1)) 0:=by
    rw[List.set_append_right _ _ sM,List.length_replicate,Nat.sub_self]
    obtain⟨q,hq⟩:∃q,N - i=q+1:=⟨N - i - 1,oM⟩
    rw[hq,List.replicate_succ,List.set_cons_zero,List.replicate_succ',List.append_assoc,show N - (i+1)=q by omega]
    rfl
   rw[e]
   exact f49_l2_eq t j hj hs r hf N hN n (i+1) _ rfl oM oM
  ·have ei:i=N:=oM
   subst ei
   rw[dq,cdF,bnS,cdF,Nat.sub_self,List.replicate_zero,List.append_nil]
theorem f49_row(t:aj)(i:Nat)(hh:i<t.objs.length)(hs:t.objs[i].set_.length<9223372036854775808)(hm:1≤t.objs[i].size∧t.objs[i].size≤16384∧t.objs[i].lo≤t.objs[i].hi∧(t.objs[i].set_.length:Int)≤4096)(ho:t.objs.length≤4096)(M:Nat)(hM:M=9223372036854775808)(F:List (List Int)→Option (List (List Int)))(z:Option (List (List Int)))
  (ih:F ((t.objs.take (i+1)).map bX)=z):
  f49_l2 t (i:Int) (λv=>aI (cq 24 ((t.objs.take i).map bX) [v]) (F ((t.objs.take i).map bX++ [v]))) M 0 (List.replicate (Int.toNat t.objs[i].size) (0:Int))=z:=by
 have fin:∀v,v=bX t.objs[i]→(aI (cq 24 ((t.objs.take i).map bX) [v]) (F ((t.objs.take i).map bX++ [v])))=z:=λv hv'=>by
  have e:(t.objs.take i).map bX++ [bX t.objs[i]]=(t.objs.take (i+1)).map bX:=by
   rw[List.take_succ_eq_append_getElem hh,List.map_append];rfl
  rw[bE _ (bC oM (by rw[List.length_map,List.length_take,List.length_singleton];omega)),hv',e,ih]
 cases hf:fits t.objs[i] 0
 ·have:=f49_l2_eq t i hh hs (λv=>aI (cq 24 ((t.objs.take i).map bX) [v]) (F ((t.objs.take i).map bX++ [v]))) hf (Int.toNat t.objs[i].size) oM M 0 0 rfl (Nat.zero_le _) oM
  rw[List.replicate_zero,List.nil_append,Nat.sub_zero] at this
  rw[this]
  exact fin _ (by unfold bX rM;rw[hf];rfl)
 ·obtain⟨m,hm'⟩:∃m,M=m+1:=⟨M - 1,oM⟩
  rw[hm',f49_l2,aA hh,bnS,f34_eq _ _ hs,bnS,hf]
  have e:(bif decide ((0:Int)<((List.replicate (Int.toNat t.objs[i].size) (0:Int)).length:Int)) then some (!true) else some false)=some false:=by
   cases decide ((0:Int)<((List.replicate (Int.toNat t.objs[i].size) (0:Int)).length:Int))<;>rfl
  rw[e,bnS,cdF]
  exact fin _ (by unfold bX rM;rw[hf];rfl)
theorem f49_l1_eq(t:aj)(hv:VT t)(k:List (List Int)→Option (List (List Int))):∀(n i:Nat)(z:Int),z=(i:Int)→i≤t.objs.length→t.objs.length<n+i→
  f49_l1 t k n z ((t.objs.take i).map bX)=k (t.objs.map bX)
 |0,i,z,_,_,h=>oM
 |n+1,i,z,hz,hi,h=>by
  subst hz
  have ho:=hv.objs
  rw[f49_l1]
  by_cases hh:i<t.objs.length
  ·have hm:=hv.o (List.getElem_mem hh)
   have hs:=hv.sz.sets _ (List.getElem_mem hh)
   rw[dO hh,cdT,ak,aA hh,bnS,bE _ (ma oM oM oM),ak,w1 hh oM]
   have ih:=f49_l1_eq t hv k n (i+1) _ rfl oM oM
   exact f49_row t i hh hs hm oM 9223372036854775808 rfl (λS=>f49_l1 t k n ((i+1:Nat):Int) S) (k (t.objs.map bX)) ih
  ·have ei:i=t.objs.length:=oM
   subst ei
   rw[dq,cdF,List.take_length]
theorem f49_l3_eq(t:aj)(hv:VT t)(k:List (List Int)→Option (List (List Int))):∀(n i:Nat)(z:Int)(S:List (List Int)),z=(i:Int)→i≤t.inits.length→t.inits.length<n+i→Shape t.objs S→
  f49_l3 t k n z S=k ((t.inits.drop i).foldl ld S)
 |0,i,z,S,_,_,h,_=>oM
 |n+1,i,z,S,hz,hi,h,hS=>by
  subst hz
  have hl:=hv.sz.inits
  rw[f49_l3]
  by_cases hh:i<t.inits.length
  ·have hx:=ii _ _ hv.inits _ (List.getElem_mem hh)
   rw[aM hh,List.foldl_cons,dO hh,cdT,aA hh,bnS,w1 hh hl]
   generalize t.inits[i]=x at hx
   unfold d6 at hx
   rw[Bool.and_eq_true] at hx
   obtain⟨o,ho,h0,h1⟩:=fg hx.1
   have hob:=hv.o (cy ho)
   obtain⟨r,hr,hrl⟩:=hS.at (bd ho)
   have e:idx S x.o=some r:=by
    unfold idx
    rw[dcT (cR ho).1]
    exact hr
   rw[w64 oM oM] at h1
   obtain⟨v,hv',_⟩:=aR (L:=r) (i:=x.slot) oM
   rw[e,bnS,bnS,bnS,hv',bnS]
   have e2:ld S x=S.set x.o.toNat (r.set x.slot.toNat x.v):=by unfold ld;rw[hr];rfl
   rw[←e2]
   exact f49_l3_eq t hv k n (i+1) _ _ rfl oM oM (hS.set _ _ _)
  ·have ei:i=t.inits.length:=oM
   subst ei
   rw[dq,cdF,List.drop_eq_nil_of_le (Nat.le_refl _)]
   rfl
theorem f49_eq(t:aj)(hs:Sz t)(ha:SzA t)(h:MayB t=true):f49 t=some (store t):=by
 have hv:=lj hs h
 have ho:=hv.objs
 have hi:=hs.inits
 unfold f49
 rw[f48_eq t hs ha,h,bnS,Bool.not_true,cdF,ak]
 have e:=f49_l1_eq t hv (λl87=>letk (λ(l121:List (List Int))=>some l121) λk123=>f49_l3 t k123 9223372036854775808 0 l87) 9223372036854775808 0 0 rfl (Nat.zero_le _) oM
 rw[List.take_zero,List.map_nil] at e
 rw[e,ak,f49_l3_eq t hv _ 9223372036854775808 0 0 _ rfl (Nat.zero_le _) oM (kg hv),List.drop_zero]
 rfl
theorem f16_eq(t:aj)(in1:List Int)(hs:Sz t)(ha:SzA t)(h:MayB t=true):f16 t in1=some (Mem.mk t (store t) in1 [],0):=by
 unfold f16
 rw[f48_eq t hs ha,h,bnS,Bool.not_true,cdF,f49_eq t hs ha h]
 rfl
theorem f16_bad(t:aj)(in1:List Int)(hs:Sz t)(ha:SzA t)(h:MayB t=false):f16 t in1=some (Mem.mk (aj.mk [] [] [] [] [] [] [] 0 [] [] []) [] [] [],2):=by
 unfold f16
 rw[f48_eq t hs ha,h]
 rfl
theorem qZ{α:Type}(L:List α):(L.all λ_=>true)=true:=by
 induction L with
 |nil=>rfl
 |cons x L ih=>rw[List.all_cons,ih];rfl
theorem f14_sam2(L:List Int)(hl:L.length<9223372036854775808):f14 L L=some true:=by
 unfold f14
 rw[dcT rfl,Bool.not_true,cdF,ak,fW L (f14_l1 L L λ_=>some true) (some true) (λ_=>true) _ rfl hl (λn i hi=>by
  rw[f14_l1,dO hi,cdT,aA hi,bnS,bnS,dcT rfl,w1 hi hl];rfl) (λn=>by rw[f14_l1,dq,cdF]),qZ]
 rfl
theorem f18_same(L:List Act)(hl:L.length<9223372036854775808):f18 L L=some true:=by
 unfold f18
 rw[dcT rfl,Bool.not_true,cdF,ak,fW L (f18_l1 L L λ_=>some true) (some true) (λ_=>true) _ rfl hl (λn i hi=>by
  rw[f18_l1,dO hi,cdT,aA hi,bnS,bnS,dcT rfl,dcT rfl,dcT rfl,dcT rfl,dcT rfl,dcT rfl,w1 hi hl];rfl) (λn=>by rw[f18_l1,dq,cdF]),qZ]
 rfl
theorem f29_same(S:List (List Int))(hl:S.length<9223372036854775808)(hs:∀r∈S,r.length<9223372036854775808):f29 S S=some true:=by
 unfold f29
 rw[dcT rfl,Bool.not_true,cdF,ak,fW S (f29_l1 S S λ_=>some true) (some true) (λ_=>true) _ rfl hl (λn i hi=>by
  have hr:=hs _ (List.getElem_mem hi)
  rw[f29_l1,dO hi,cdT,ak,aA hi,bnS,bnS,dcT rfl,Bool.not_true,cdF,w1 hi hl,
   fW S[i] (f29_l2 S S (i:Int) λ_=>f29_l1 S S (λ_=>some true) n ((i+1:Nat):Int)) (f29_l1 S S (λ_=>some true) n ((i+1:Nat):Int)) (λ_=>true) _ rfl hr (λm j hj=>by
    rw[f29_l2,aA hi,bnS,dO hj,cdT,bnS,aA hj,bnS,bnS,aA hj,bnS,dcT rfl,w1 hj hr];rfl) (λm=>by rw[f29_l2,aA hi,bnS,dq,cdF]),qZ]) (λn=>by rw[f29_l1,dq,cdF]),qZ]
 rfl
theorem f28_l1_eq(S:List (List Int))(k:List (List Int)→Option (List (List Int)))(hl:S.length<1000000)(hs:∀r∈S,r.length≤1000000000000):∀(n i:Nat)(z:Int),z=(i:Int)→i≤S.length→S.length<n+i→
  f28_l1 S k n z (S.take i++List.replicate (S.length - i) [])=k S
 |0,i,z,_,_,h=>oM
 |n+1,i,z,hz,hi,h=>by
  subst hz
  rw[f28_l1]
  by_cases hh:i<S.length
  ·have hr:=hs _ (List.getElem_mem hh)
   have hL:(S.take i++List.replicate (S.length - i) ([]:List Int)).length=S.length:=by simp;omega
   rw[dO hh,cdT,aA hh,bnS]
   unfold f42m
   rw[aA hh,bnS,bE _ (bC oM (by simp;omega)),bnS,aA oM,bnS,w1 hh oM,Int.toNat_natCast]
   have e:(S.take i++List.replicate (S.length - i) ([]:List Int)).set i S[i]=S.take (i+1)++List.replicate (S.length - (i+1)) []:=by
    rw[List.set_append_right _ _ (by simp;omega)]
    have e:i - (S.take i).length=0:=by simp;omega
    obtain⟨q,hq⟩:∃q,S.length - i=q+1:=⟨S.length - i - 1,oM⟩
    rw[e,hq,List.replicate_succ,List.set_cons_zero,List.take_succ_eq_append_getElem hh,List.append_assoc,show S.length - (i+1)=q by omega]
    rfl
   rw[e]
   exact f28_l1_eq S k hl hs n (i+1) _ rfl oM oM
  ·have ei:i=S.length:=oM
   rw[ei,dq,cdF,Nat.sub_self,List.replicate_zero,List.append_nil,List.take_length]
theorem f28_eq(mI:List aB)(mH:List aG)(mO:List Obj)(mE:Int)(mN:List Int)(S:List (List Int))(mU:List Int)(hI:1≤mI.length)(hl:S.length<1000000)(hs:∀r∈S,r.length≤1000000000000):f28 mI mH mO mE mN S mU=some S:=by
 unfold f28 f47
 rw[dcF (by omega:¬(mI.length:Int)=0),bnS,cdF,bE _ (ma oM oM oM),ak]
 have e:=f28_l1_eq S (λl36=>some l36) hl hs (Int.toNat ((List.length S:Int) - 0)+1) 0 0 rfl (Nat.zero_le _) oM
 rw[List.take_zero,List.nil_append,Nat.sub_zero] at e
 rw[Int.toNat_natCast]
 exact e
theorem f19_same(mI:List aB)(mH:List aG)(mO:List Obj)(mE:Int)(w:Mem)(hI:1≤mI.length)(hl:w.slots.length<1000000)(hs:∀r∈w.slots,r.length≤1000000000000)(hn:w.in_.length≤1000000000000)(hu:w.out.length≤1000000000000):
  f19 mI mH mO mE w.in_ w.slots w.out w=some true:=by
 unfold f19
 rw[ak,f28_eq _ _ _ _ _ _ _ hI hl hs,bnS,f29_same _ oM (λr hr=>by have:=hs r hr;omega),bnS,cdT]
 unfold f13 f15 f47 f42 f42c
 rw[dcF (by omega:¬(mI.length:Int)=0),bnS,cdF,bE _ (bC oM (by simp;omega)),bnS,bnS,f14_sam2 _ oM,bnS,cdT,bnS,cdF,bE _ (bC oM (by simp;omega)),bnS,bnS,f14_sam2 _ oM]
 rfl
def Rel(t:aj)(r:Rs Z8)(s:av):Prop:=match r with
 | .bad e=>e≠0∧s.e=e
 | .ok z=>s=av.mk (Mem.mk t z.2.2.2.2.2.1 z.2.2.2.2.1 z.2.2.2.2.2.2.1) (aq.mk z.1 z.2.1 z.2.2.1 z.2.2.2.1) z.2.2.2.2.2.2.2 0
def kP(N:List Int)(S:List (List Int))(U:List Int)(A:List Act)(r:Rs ((Nat→Int)×Int×Int×Int)):Rs Z8:=Rs.cs r (λe=>Rs.bad e) λz=>Rs.ok (z.1,z.2.1,z.2.2.1,z.2.2.2,N,S,U,A)
theorem gi(t:aj)(hl:t.insns.length≤65536)(R:Nat→Int)(P X D:Int)(hp:0≤P∧P<(t.insns.length:Int))(mH:List aG)(mO:List Obj)(mE:Int)(mN:List Int)(mS:List (List Int))(mU:List Int)(tA:List Act)(N:List Int)(S:List (List Int))(U:List Int)(A:List Act):
  ∃r,f131 R P X D t.insns mH mO mE mN mS mU tA=some r∧Rel t (kP N S U A r) (f97 (av.mk (Mem.mk t S N U) (aq.mk R P X D) A 0)):=by
 unfold f131 f97
 dsimp only
 rw[ak,w64 (x:=P+1) oM oM]
 have hat:f30 t (P+1)=(decide (P+1≥0)&&decide (P+1<(t.insns.length:Int))):=rfl
 rw[hat,dcT (show P+1≥0 by omega),Bool.true_and]
 by_cases h:P+1=(t.insns.length:Int)
 ·rw[dcT h,dcF (show¬P+1<(t.insns.length:Int) by omega)]
  exact⟨_,rfl,by decide,rfl⟩
 ·rw[dcF h,dcT (show P+1<(t.insns.length:Int) by omega)]
  exact⟨_,rfl,rfl⟩
theorem s87(t:aj)(hl:t.insns.length≤65536)(tR:Nat→Int)(tP tX tD:Int)(hp:0≤tP∧tP<(t.insns.length:Int))(hd:0≤tD∧tD≤1000000)(mH:List aG)(mO:List Obj)(mE:Int)(N:List Int)(S:List (List Int))(U:List Int)(x:aB)(hx:Rg x)
  (ho:x.op=1∨x.op=2∨x.op=36∨x.op=40∨x.op=41):
  ∃r s,f87 tR tP tX tD t.insns mH mO mE N S U [] x=some r∧f54 (av.mk (Mem.mk t S N U) (aq.mk tR tP tX tD) [] 0) x=some s∧Rel t (kP N S U [] r) s:=by
 have nx:=λR D=>gi t hl R tP tX D hp mH mO mE N S U [] N S U []
 have k87:∀R D,0≤D∧D≤1000000→∃r,(bif ((decide (D<0))||(decide (D>1000000))) then some (Rs.bad 280) else Option.bind (f131 R tP tX D t.insns mH mO mE N S U []) λr101=>Rs.cs r101 (λe103=>some (Rs.bad e103)) (λz102=>some (Rs.ok (z102.1,z102.2.1,z102.2.2.1,z102.2.2.2))))=some r∧Rel t (kP N S U [] r) (f97 (av.mk (Mem.mk t S N U) (aq.mk R tP tX D) [] 0)):=λR D h=>by
  rw[dcF (show¬D<0 by omega),dcF (show¬D>1000000 by omega)]
  obtain⟨r,h1,h2⟩:=nx R D
  refine⟨r,?_,h2⟩
  rw[Bool.or_self,cdF,h1,bnS]
  cases r<;>rfl
 unfold f87 f54
 dsimp only
 rw[hx.a,hx.d]
 simp only[ak]
 have k9:∀D:Int,¬(0≤D∧D≤1000000)→(decide (D<0)||decide (D>1000000))=true:=λD h=>by
  rw[Bool.or_eq_true]
  simp only[decide_eq_true_eq]
  omega
 have k8:∀D:Int,(0≤D∧D≤1000000)→(decide (D<0)||decide (D>1000000))=false:=λD h=>by
  rw[dcF (show¬D<0 by omega),dcF (show¬D>1000000 by omega)];rfl
 rcases ho with e|e|e|e|e<;>rw[e]
 ·obtain⟨r,h1,h2⟩:=k87 (bW tR (Int.toNat x.d) x.n) tD hd
  exact⟨r,_,h1,rfl,h2⟩
 ·obtain⟨r,h1,h2⟩:=k87 (bW tR (Int.toNat x.d) (tR (Int.toNat x.a))) tD hd
  exact⟨r,_,h1,rfl,h2⟩
 ·obtain⟨r,h1,h2⟩:=k87 (bW tR (Int.toNat x.d) tX) tD hd
  exact⟨r,_,h1,rfl,h2⟩
 ·by_cases hD:0≤IntKind.i64.wrap (tD+1)∧IntKind.i64.wrap (tD+1)≤1000000
  ·obtain⟨r,h1,h2⟩:=k87 tR (IntKind.i64.wrap (tD+1)) hD
   refine⟨r,_,h1,?_,h2⟩
   rw[k8 _ hD];rfl
  ·rw[k9 _ hD]
   exact⟨_,_,rfl,rfl,by decide,rfl⟩
 ·by_cases hD:0≤IntKind.i64.wrap (tD - 1)∧IntKind.i64.wrap (tD - 1)≤1000000
  ·obtain⟨r,h1,h2⟩:=k87 tR (IntKind.i64.wrap (tD - 1)) hD
   refine⟨r,_,h1,?_,h2⟩
   rw[k8 _ hD];rfl
  ·rw[k9 _ hD]
   exact⟨_,_,rfl,rfl,by decide,rfl⟩
def I64(v:Int):Prop:= -9223372036854775808≤v∧v≤9223372036854775807
theorem f52_l1_eq(s0:av)(x:aB)(k:Option av)(hm:x.m≤65536)(hn:I64 x.n)(hr:I64 (s0.r.r (Int.toNat x.a))):∀(n i:Nat)(z:Int),z=(i:Int)→(i:Int)≤x.m→x.m<(n:Int)+i→
  f52_l1 s0 x (λ_=>k) n z=if x.n+i≤s0.r.r (Int.toNat x.a)∧s0.r.r (Int.toNat x.a)<x.n+x.m then some (av.mk s0.m (aq.mk s0.r.r (IntKind.i64.wrap (x.to+(s0.r.r (Int.toNat x.a) - x.n))) s0.r.exc s0.r.defer) s0.acts s0.e) else k
 |0,i,z,_,_,h=>oM
 |n+1,i,z,hz,hi,h=>by
  subst hz
  obtain⟨n1,n2⟩:=hn
  obtain⟨r1,r2⟩:=hr
  rw[f52_l1]
  by_cases hh:(i:Int)<x.m
  ·rw[dcT hh,cdT,w64 (x:=(i:Int)+1) oM oM,f52_l1_eq s0 x k hm ⟨n1,n2⟩ ⟨r1,r2⟩ n (i+1) _ (by push_cast;rfl) (by push_cast;omega) (by push_cast;omega)]
   generalize s0.r.r (Int.toNat x.a)=ra at*
   by_cases ho:x.n+i≤9223372036854775807
   ·rw[w64 (x:=x.n+i) oM ho,dcT (show x.n+i≥x.n by omega),Bool.true_and]
    by_cases he:ra=x.n+i
    ·rw[dcT he,cdT,if_pos oM,show ra - x.n=i by omega]
    ·rw[dcF he,cdF]
     by_cases hc:x.n+i≤ra∧ra<x.n+x.m
     ·rw[if_pos hc,if_pos (by push_cast;omega)]
     ·rw[if_neg hc,if_neg (by push_cast;omega)]
   ·have hw:¬IntKind.i64.wrap (x.n+i)≥x.n:=by rw[IntKind.wrap_i64];omega
    rw[dcF hw,Bool.false_and,cdF,if_neg (by push_cast;omega),if_neg oM]
  ·rw[dcF hh,cdF,if_neg oM]
theorem uG(ra n m:Int)(hr:I64 ra)(hn:I64 n)(h1:1≤m)(h2:m≤65536):(decide (ra≥n)&&decide ((IntKind.u64.wrap ((IntKind.u64.wrap ra) - (IntKind.u64.wrap n)))<(IntKind.u64.wrap m)))=decide (n≤ra∧ra<n+m):=by
 obtain⟨r1,r2⟩:=hr
 obtain⟨n1,n2⟩:=hn
 have e:∀v:Int,IntKind.u64.wrap v=v%18446744073709551616:=λv=>by simp[IntKind.wrap,IntKind.signed,IntKind.bits]
 rw[e,e,e,e,←Bool.decide_and]
 refine decide_eq_decide.2 ?_
 constructor
 ·rintro⟨a,b⟩;omega
 ·rintro⟨a,b⟩;omega
theorem s83(t:aj)(hl:t.insns.length≤65536)(tR:Nat→Int)(tP tX tD:Int)(hp:0≤tP∧tP<(t.insns.length:Int))(hR:∀j,I64 (tR j))(mH:List aG)(mO:List Obj)(mE:Int)(N:List Int)(S:List (List Int))(U:List Int)(x:aB)(hx:Rg x)(hm:eP x=true)(hn:I64 x.n)
  (ho:x.op=29∨x.op=30∨x.op=31∨x.op=32):
  ∃r s,f83 tR tP tX tD t.insns mH mO mE N S U [] x=some r∧f52 (av.mk (Mem.mk t S N U) (aq.mk tR tP tX tD) [] 0) x=some s∧Rel t (kP N S U [] r) s:=by
 obtain⟨rn,hn1,hn2⟩:=gi t hl tR tP tX tD hp mH mO mE N S U [] N S U []
 have k1:(Option.bind (f131 tR tP tX tD t.insns mH mO mE N S U []) λr78=>Rs.cs r78 (λe80=>some (Rs.bad e80)) (λz79=>some (Rs.ok (z79.1,z79.2.1,z79.2.2.1,z79.2.2.2))))=some rn:=by
  rw[hn1,bnS]
  cases rn<;>rfl
 unfold f83 f52
 dsimp only
 rw[hx.a,k1]
 rcases ho with e|e|e|e
 ·rw[e]
  exact⟨_,_,rfl,rfl,rfl⟩
 ·rw[e]
  by_cases h:tR (Int.toNat x.a)=0
  ·rw[dcT h]
   exact⟨_,_,rfl,rfl,rfl⟩
  ·rw[dcF h]
   exact⟨_,_,rfl,rfl,hn2⟩
 ·rw[e]
  by_cases h:tR (Int.toNat x.a)=0
  ·rw[dcT h]
   exact⟨_,_,rfl,rfl,hn2⟩
  ·rw[dcF h]
   exact⟨_,_,rfl,rfl,rfl⟩
 ·obtain⟨a1,a2,a3,a4⟩:=qm hm e
  have hL:=λk=>f52_l1_eq (av.mk (Mem.mk t S N U) (aq.mk tR tP tX tD) [] 0) x k a4 hn (hR _) 9223372036854775808 0 0 rfl oM oM
  have hJ:=uG (tR (Int.toNat x.a)) x.n x.m (hR _) hn a3 a4
  rw[ak,ak,e,hL]
  have hd:decide ((32:Int)=32)=true:=by decide
  rw[hd,Bool.true_and,hJ]
  have e0:x.n+((0:Nat):Int)=x.n:=oM
  rw[e0]
  have hr:=hR (Int.toNat x.a)
  by_cases hc:x.n≤tR (Int.toNat x.a)∧tR (Int.toNat x.a)<x.n+x.m
  ·rw[dcT hc,if_pos hc,w64 (x:=tR (Int.toNat x.a) - x.n) oM oM]
   exact⟨_,_,rfl,rfl,rfl⟩
  ·rw[dcF hc,if_neg hc]
   exact⟨_,_,rfl,rfl,hn2⟩
def qo(p c:Int)(x:aG):Bool:=((decide (x.from_≤p))&&(decide (p<x.to)))&&((decide (c>0))||x.clean)
def fi(p c:Int):List aG→Nat→Int
 |[],_=> -1
 |x::r,i=>bif qo p c x then(i:Int) else fi p c r (i+1)
theorem f103_l1_eq(t:aj)(p c:Int)(hc:c≠0)(hl:t.handlers.length<9223372036854775808):∀(n i:Nat)(z:Int),z=(i:Int)→i≤t.handlers.length→t.handlers.length<n+i→f103_l1 t p c (λ_=>some (-1)) n z=some (fi p c (t.handlers.drop i) i)
 |0,i,z,_,_,h=>oM
 |n+1,i,z,hz,hi,h=>by
  subst hz
  rw[f103_l1,dcF hc,Bool.not_false,Bool.and_true]
  by_cases hh:i<t.handlers.length
  ·rw[aM hh,fi,dO hh,cdT,aA hh,bnS,w1 hh hl,f103_l1_eq t p c hc hl n (i+1) _ rfl oM oM]
   show(bif qo p c t.handlers[i] then _ else _)=_
   cases qo p c t.handlers[i]<;>rfl
  ·have ei:i=t.handlers.length:=oM
   subst ei
   rw[dq,cdF,List.drop_eq_nil_of_le (Nat.le_refl _)];rfl
theorem f59_l1_eq(p:Int)(H:List aG)(c:Int)(k:Int→Option (Rs ((Nat→Int)×Int×Int×Int)))(hl:H.length<9223372036854775808):∀(n i:Nat)(z:Int),z=(i:Int)→i≤H.length→H.length<n+i→f59_l1 p H c k (λ_=>k (-1)) n z=k (fi p c (H.drop i) i)
 |0,i,z,_,_,h=>oM
 |n+1,i,z,hz,hi,h=>by
  subst hz
  rw[f59_l1]
  by_cases hh:i<H.length
  ·rw[aM hh,fi,dO hh,cdT,aA hh,bnS,ak,w1 hh hl,f59_l1_eq p H c k hl n (i+1) _ rfl oM oM]
   have e:((decide (H[i].from_≤p)&&decide (p<H[i].to))&&(H[i].clean||decide (c>0)))=qo p c H[i]:=by
    unfold qo
    rw[Bool.or_comm H[i].clean]
   rw[e]
   cases qo p c H[i]<;>rfl
  ·have ei:i=H.length:=oM
   subst ei
   rw[dq,cdF,List.drop_eq_nil_of_le (Nat.le_refl _)];rfl
theorem vq(p c:Int)(H:List aG):∀(n i:Nat),i+n=H.length→fi p c (H.drop i) i= -1∨∃x,0≤fi p c (H.drop i) i∧idx H (fi p c (H.drop i) i)=some x
 |0,i,h=>by
  rw[List.drop_eq_nil_of_le oM];exact .inl rfl
 |n+1,i,h=>by
  have hh:i<H.length:=oM
  rw[aM hh,fi]
  cases qo p c H[i]
  ·exact vq p c H n (i+1) oM
  ·exact .inr ⟨H[i],by rw[cdT];omega,by rw[cdT,aA hh]⟩
theorem qp(t:aj)(hH:t.handlers.length≤4096)(tR:Nat→Int)(tP tX tD c:Int)(hc:c≠0)(mI:List aB)(mO:List Obj)(mE:Int)(N:List Int)(S:List (List Int))(U:List Int)(A:List Act):
  (f59 tR tP tX tD mI t.handlers mO mE N S U A c=some (Rs.bad 280)∧f60 t (aq.mk tR tP tX tD) c=some (aq.mk (λ_=>0) 0 0 0,280))∨
  ∃a d,f59 tR tP tX tD mI t.handlers mO mE N S U A c=some (Rs.ok (λ_=>0,a,c,d))∧f60 t (aq.mk tR tP tX tD) c=some (aq.mk (λ_=>0) a c d,0):=by
 unfold f59 f60 f103
 dsimp only
 rw[ak,ak,ak,f103_l1_eq t tP c hc oM _ 0 0 rfl (Nat.zero_le _) oM,f59_l1_eq tP t.handlers c _ oM _ 0 0 rfl (Nat.zero_le _) oM,List.drop_zero,bnS]
 have h:=vq tP c t.handlers t.handlers.length 0 oM
 rw[List.drop_zero] at h
 generalize fi tP c t.handlers 0=v at h
 rcases h with rfl|⟨x,hv,hx⟩
 ·exact .inl ⟨rfl,rfl⟩
 ·rw[dcF (show¬v<0 by omega),cdF,cdF,hx,bnS,bnS,ak,ak]
  cases x.clean
  ·rw[cdF,cdF]
   dsimp only
   cases decide (tD>1000000)
   ·exact .inr ⟨_,_,rfl,rfl⟩
   ·exact .inl ⟨rfl,rfl⟩
  ·rw[cdT,cdT]
   dsimp only
   cases decide (IntKind.i64.wrap (tD+1)>1000000)
   ·exact .inr ⟨_,_,rfl,rfl⟩
   ·exact .inl ⟨rfl,rfl⟩
def pa(N:List Int)(S:List (List Int))(U:List Int)(r:Rs ((Nat→Int)×Int×Int×Int×(List Act))):Rs Z8:=Rs.cs r (λe=>Rs.bad e) λz=>Rs.ok (z.1,z.2.1,z.2.2.1,z.2.2.2.1,N,S,U,z.2.2.2.2)
theorem gh(t:aj)(hH:t.handlers.length≤4096)(tR:Nat→Int)(tP tX tD c:Int)(hc:c>0)(mI:List aB)(mO:List Obj)(mE:Int)(N:List Int)(S:List (List Int))(U:List Int):
  ∃r s,(Option.bind (f56 tR tP tX tD mI t.handlers mO mE N S U [] c) λr45=>Rs.cs r45 (λe47=>some (Rs.bad e47)) (λz46=>some (Rs.ok (z46.1,z46.2.1,z46.2.2.1,z46.2.2.2.1,z46.2.2.2.2))))=some r∧
   (Option.bind (f57 t (aq.mk tR tP tX tD) c) λr145=>some (av.mk (Mem.mk t S N U) r145.1 r145.2.1 r145.2.2))=some s∧Rel t (pa N S U r) s:=by
 unfold f56 f57
 rcases qp t hH tR tP tX tD c oM mI mO mE N S U [] with⟨h1,h2⟩|⟨a,d,h1,h2⟩
 ·rw[h1,h2]
  exact⟨_,_,rfl,rfl,by decide,rfl⟩
 ·rw[h1,h2]
  have e:cq 48 ([]:List Act) [Act.mk 0 0 5 c 0 0]=true:=bC oM sM
  simp only[bnS,Rs.cs]
  rw[e]
  exact⟨_,_,rfl,rfl,rfl⟩
theorem wz:jo 33=[(78,120)]:=by decide+kernel
theorem tn{x:aB}(h:eP x=true)(ho:x.op=33):1≤x.n:=by
 unfold eP at h
 rw[ho,wz] at h
 simp only[Bool.and_eq_true] at h
 have:=h.2.2
 simp only[fl,rng,f179] at this
 simp at this
 omega
section
variable(t:aj)(hl:t.insns.length≤65536)(hH:t.handlers.length≤4096)(tR:Nat→Int)(tP tX tD:Int)(hp:0≤tP∧tP<(t.insns.length:Int))(mO:List Obj)(N:List Int)(S:List (List Int))(U:List Int)(x:aB)(hx:Rg x)
include hl hH hp hx
theorem s84(mE:Int)(ho:x.op=27∨x.op=28):
  ∃r s,f84 tR tP tX tD t.insns t.handlers mO mE N S U [] x=some r∧f53 (av.mk (Mem.mk t S N U) (aq.mk tR tP tX tD) [] 0) x=some s∧Rel t (pa N S U r) s:=by
 obtain⟨rn,hn1,hn2⟩:=gi t hl tR tP tX tD hp t.handlers mO mE N S U [] N S U []
 obtain⟨rr,sr,hr1,hr2,hr3⟩:=gh t hH tR tP tX tD 1 oM t.insns mO mE N S U
 have k1:∃r,(Option.bind (f131 tR tP tX tD t.insns t.handlers mO mE N S U []) λr49=>Rs.cs r49 (λe51=>some (Rs.bad e51)) (λz50=>some (Rs.ok (z50.1,z50.2.1,z50.2.2.1,z50.2.2.2,([]:List Act)))))=some r∧pa N S U r=kP N S U [] rn:=by
  rw[hn1,bnS]
  cases rn<;>exact⟨_,rfl,rfl⟩
 obtain⟨r1,k1,k2⟩:=k1
 rw[←k2] at hn2
 unfold f84 f53
 dsimp only
 rw[hx.a,k1,hr1]
 simp only[ak]
 rcases ho with e|e<;>rw[e]
 ·cases decide (tR (Int.toNat x.a)<x.n)||decide (tR (Int.toNat x.a)>x.m)
  ·exact⟨_,_,rfl,rfl,hn2⟩
  ·exact⟨_,_,rfl,hr2,hr3⟩
 ·cases decide (tR (Int.toNat x.a)=0)
  ·exact⟨_,_,rfl,rfl,hn2⟩
  ·exact⟨_,_,rfl,hr2,hr3⟩
theorem s85(hE:0≤t.excs)(hm:eP x=true)(ho:x.op=33∨x.op=34∨x.op=35):
  ∃r s,f85 tR tP tX tD t.insns t.handlers mO t.excs N S U [] x=some r∧f53 (av.mk (Mem.mk t S N U) (aq.mk tR tP tX tD) [] 0) x=some s∧Rel t (pa N S U r) s:=by
 obtain⟨rn,hn1,hn2⟩:=gi t hl tR tP tX tD hp t.handlers mO t.excs N S U [] N S U []
 have k1:∃r,(Option.bind (f131 tR tP tX tD t.insns t.handlers mO t.excs N S U []) λr49=>Rs.cs r49 (λe51=>some (Rs.bad e51)) (λz50=>some (Rs.ok (z50.1,z50.2.1,z50.2.2.1,z50.2.2.2,([]:List Act)))))=some r∧pa N S U r=kP N S U [] rn:=by
  rw[hn1,bnS]
  cases rn<;>exact⟨_,rfl,rfl⟩
 obtain⟨r1,k1,k2⟩:=k1
 rw[←k2] at hn2
 unfold f85 f53
 dsimp only
 rw[hx.a,k1]
 simp only[ak]
 rcases ho with e|e|e
 ·obtain⟨rr,sr,hr1,hr2,hr3⟩:=gh t hH tR tP tX tD x.n (by have:=tn hm e;omega) t.insns mO t.excs N S U
  rw[e,dcT (show x.n>0 by have:=tn hm e;omega)]
  exact⟨_,_,hr1,hr2,hr3⟩
 ·rw[e]
  by_cases hb:1≤tR (Int.toNat x.a)∧tR (Int.toNat x.a)≤t.excs
  ·obtain⟨rr,sr,hr1,hr2,hr3⟩:=gh t hH tR tP tX tD (tR (Int.toNat x.a)) oM t.insns mO t.excs N S U
   rw[dcT (show tR (Int.toNat x.a)>0 by omega),dcF (show¬tR (Int.toNat x.a)<1 by omega),dcF (show¬tR (Int.toNat x.a)>t.excs by omega),dcF (show¬tR (Int.toNat x.a)< -2 by omega)]
   exact⟨_,_,hr1,hr2,hr3⟩
  ·by_cases h1:tR (Int.toNat x.a)<1
   ·rw[dcT h1]
    refine⟨Rs.bad 280,_,?_,rfl,by decide,rfl⟩
    cases decide (tR (Int.toNat x.a)>t.excs)<;>cases decide (tR (Int.toNat x.a)< -2)<;>rfl
   ·rw[dcF h1,dcT (show tR (Int.toNat x.a)>t.excs by omega)]
    exact⟨_,_,rfl,rfl,by decide,rfl⟩
 ·rw[e]
  by_cases h0:tR (Int.toNat x.a)=0
  ·rw[dcT h0,dcF (show¬tR (Int.toNat x.a)< -2 by omega),dcF (show¬tR (Int.toNat x.a)>t.excs by omega)]
   exact⟨_,_,rfl,rfl,hn2⟩
  ·rw[dcF h0]
   by_cases h1:tR (Int.toNat x.a)< -2
   ·rw[dcT h1]
    refine⟨Rs.bad 280,_,?_,rfl,by decide,rfl⟩
    cases decide (tR (Int.toNat x.a)>t.excs)<;>rfl
   ·rw[dcF h1]
    by_cases h2:tR (Int.toNat x.a)>t.excs
    ·rw[dcT h2]
     exact⟨_,_,rfl,rfl,by decide,rfl⟩
    ·rw[dcF h2]
     rcases qp t hH tR tP tX tD (tR (Int.toNat x.a)) h0 t.insns mO t.excs N S U [] with⟨g1,g2⟩|⟨a,d,g1,g2⟩
     ·rw[g1,g2]
      exact⟨_,_,rfl,rfl,by decide,rfl⟩
     ·rw[g1,g2]
      exact⟨_,_,rfl,rfl,rfl⟩
end
def vh(S:List (List Int))(r:Rs ((Nat→Int)×Int×Int×Int×(List Int)×(List Int)×(List Act))):Rs Z8:=Rs.cs r (λe=>Rs.bad e) λz=>Rs.ok (z.1,z.2.1,z.2.2.1,z.2.2.2.1,z.2.2.2.2.1,S,z.2.2.2.2.2.1,z.2.2.2.2.2.2)
theorem gC(t:aj)(hl:t.insns.length≤65536)(P:Int)(hp:0≤P∧P<(t.insns.length:Int)):
  (∀(R:Nat→Int)(X D:Int)(mH:List aG)(mO:List Obj)(mE:Int)(mN:List Int)(mS:List (List Int))(mU:List Int)(tA:List Act),f131 R P X D t.insns mH mO mE mN mS mU tA=some (Rs.bad 280)∧∀N S U A,(f97 (av.mk (Mem.mk t S N U) (aq.mk R P X D) A 0)).e=280)∨
  (∀(R:Nat→Int)(X D:Int)(mH:List aG)(mO:List Obj)(mE:Int)(mN:List Int)(mS:List (List Int))(mU:List Int)(tA:List Act),f131 R P X D t.insns mH mO mE mN mS mU tA=some (Rs.ok (R,P+1,X,D))∧∀N S U A,f97 (av.mk (Mem.mk t S N U) (aq.mk R P X D) A 0)=av.mk (Mem.mk t S N U) (aq.mk R (P+1) X D) A 0):=by
 unfold f131 f97
 dsimp only
 rw[w64 (x:=P+1) oM oM]
 have hat:f30 t (P+1)=(decide (P+1≥0)&&decide (P+1<(t.insns.length:Int))):=rfl
 rw[hat,dcT (show P+1≥0 by omega),Bool.true_and]
 by_cases h:P+1=(t.insns.length:Int)
 ·rw[dcT h,dcF (show¬P+1<(t.insns.length:Int) by omega)]
  exact .inl λ_ _ _ _ _ _ _ _ _ _=>⟨rfl,λ_ _ _ _=>rfl⟩
 ·rw[dcF h,dcT (show P+1<(t.insns.length:Int) by omega)]
  exact .inr λ_ _ _ _ _ _ _ _ _ _=>⟨rfl,λ_ _ _ _=>rfl⟩
section
variable(t:aj)(hl:t.insns.length≤65536)(hH:t.handlers.length≤4096)(tR:Nat→Int)(tP tX tD:Int)(hp:0≤tP∧tP<(t.insns.length:Int))(mO:List Obj)(mE:Int)(N:List Int)(S:List (List Int))(U:List Int)(x:aB)(hx:Rg x)
include hl hp hx
theorem s86a(hU:U.length≤1000000)(ho:x.op=37∨x.op=39):
  ∃r s,f86 tR tP tX tD t.insns t.handlers mO mE N S U [] x=some r∧f54 (av.mk (Mem.mk t S N U) (aq.mk tR tP tX tD) [] 0) x=some s∧Rel t (vh S r) s:=by
 have a1:∀a:Act,cq 48 ([]:List Act) [a]=true:=λa=>bC oM sM
 have a2:cq 8 ([]:List Int) U=true:=bC oM (by simp;omega)
 have a3:∀v:Int,cq 8 U [v]=true:=λv=>bC oM (by simp;omega)
 unfold f86 f54
 dsimp only
 simp only[ak]
 rw[hx.a]
 rcases ho with e|e
 ·rw[e]
  rcases gC t hl tP hp with h|h
  ·obtain⟨h1,h2⟩:=h tR tX tD t.handlers mO mE N S U []
   rw[h1]
   cases decide (IntKind.u8.wrap x.n=6)
   ·exact⟨_,_,rfl,rfl,by decide,h2 _ _ _ _⟩
   ·exact⟨_,_,rfl,rfl,by decide,h2 _ _ _ _⟩
  ·obtain⟨h1,h2⟩:=h tR tX tD t.handlers mO mE N S U []
   rw[h1]
   simp only[bnS,Rs.cs,a1]
   cases decide (IntKind.u8.wrap x.n=6)
   ·exact⟨_,_,rfl,rfl,h2 _ _ _ _⟩
   ·exact⟨_,_,rfl,rfl,h2 _ _ _ _⟩
 ·rw[e]
  rcases gC t hl tP hp with h|h
  ·obtain⟨h1,h2⟩:=h tR tX tD t.handlers mO mE N S U []
   rw[h1,a2,List.nil_append U,a3]
   exact⟨_,_,rfl,rfl,by decide,h2 _ _ _ _⟩
  ·obtain⟨h1,h2⟩:=h tR tX tD t.handlers mO mE N S U []
   rw[h1,a2,List.nil_append U,a3]
   simp only[bnS,Rs.cs,a1,a3]
   exact⟨_,_,rfl,rfl,h2 _ _ _ _⟩
include hH
theorem s86b(ho:x.op=38):
  ∃r s,f86 tR tP tX tD t.insns t.handlers mO mE N S U [] x=some r∧f53 (av.mk (Mem.mk t S N U) (aq.mk tR tP tX tD) [] 0) x=some s∧Rel t (vh S r) s:=by
 have a1:∀a:Act,cq 48 ([]:List Act) [a]=true:=λa=>bC oM sM
 unfold f86 f53
 dsimp only
 simp only[ak]
 rw[hx.a,ho]
 cases N with
 |nil=>
  obtain⟨rr,sr,hr1,hr2,hr3⟩:=gh t hH tR tP tX tD 4 oM t.insns mO mE [] S U
  cases hf:f56 tR tP tX tD t.insns t.handlers mO mE [] S U [] 4 with
  |none=>rw[hf] at hr1;cases hr1
  |some v=>
   rw[hf] at hr1
   cases v with
   |bad e=>
    have:=inS hr1
    subst this
    exact⟨_,_,rfl,hr2,hr3⟩
   |ok z=>
    have:=inS hr1
    subst this
    exact⟨_,_,rfl,hr2,hr3⟩
 |cons v N=>
  have i0:idx (v::N) 0=some v:=rfl
  have l0:decide (((v::N).length:Int)=0)=false:=dcF (by simp;omega)
  have s0:dN (v::N) 1 ((v::N).length:Int)=true:=by simp[dN];omega
  rw[l0,i0,hx.d,s0]
  rcases gC t hl tP hp with h|h
  ·obtain⟨h1,_⟩:=h tR tX tD t.handlers mO mE (v::N) S U []
   obtain⟨_,h2⟩:=h (bW tR (Int.toNat x.d) v) tX tD t.handlers mO mE (v::N) S U []
   rw[h1]
   exact⟨_,_,rfl,rfl,by decide,h2 _ _ _ _⟩
  ·obtain⟨h1,_⟩:=h tR tX tD t.handlers mO mE (v::N) S U []
   obtain⟨_,h2⟩:=h (bW tR (Int.toNat x.d) v) tX tD t.handlers mO mE (v::N) S U []
   rw[h1]
   simp only[bnS,Rs.cs,a1,i0,s0,hx.d]
   exact⟨_,_,rfl,rfl,h2 _ _ _ _⟩
end
theorem vc(v:Int)(h:I64 v):(BitVec.ofInt 64 v).msb=decide (v<0):=by
 obtain⟨h1,h2⟩:=h
 rw[BitVec.msb_eq_decide,BitVec.toNat_ofInt]
 refine decide_eq_decide.2 ?_
 omega
theorem sF(x:BitVec 64):decide (IntKind.i64.wrap (x.toNat:Int)≥0)= !x.msb:=by
 have:=x.isLt
 rw[BitVec.msb_eq_decide,IntKind.wrap_i64,←decide_not]
 refine decide_eq_decide.2 ?_
 omega
theorem ui(a b:Int)(ha:I64 a)(hb:I64 b):decide (IntKind.i64.wrap (BitVec.ofInt IntKind.i64.bits a^^^BitVec.ofInt IntKind.i64.bits b).toNat≥0)=(decide (a<0)==decide (b<0)):=by
 refine(sF _).trans ?_
 show(!(BitVec.ofInt 64 a^^^BitVec.ofInt 64 b).msb)=_
 rw[BitVec.msb_xor,vc a ha,vc b hb]
 cases decide (a<0)<;>cases decide (b<0)<;>rfl
theorem lF(a b:Int)(hb:I64 b)(h0:b≠0):I64 (Int.tmod a b):=by
 have h:=Int.natAbs_tmod a b
 have h2:a.natAbs%b.natAbs<b.natAbs:=Nat.mod_lt _ oM
 obtain⟨h3,h4⟩:=hb
 constructor<;>omega
theorem wi(a b:Int)(hb:I64 b)(h0:b≠0):f187 a b=f143 a b:=by
 have hn:nz b=true:=by simp[nz,h0]
 unfold f187 f143
 rw[hn]
 have hx:=ui (Int.tmod a b) b (lF a b hb h0) hb
 show(bif (decide (Int.tmod a b=0)||decide (IntKind.i64.wrap (BitVec.ofInt IntKind.i64.bits (Int.tmod a b)^^^BitVec.ofInt IntKind.i64.bits b).toNat≥0)) then some (Int.tmod a b) else some (IntKind.i64.wrap (Int.tmod a b+b)))=(bif ((!decide (Int.tmod a b=0))&&(!((decide (Int.tmod a b<0))==(decide (b<0))))) then some (IntKind.i64.wrap (Int.tmod a b+b)) else some (Int.tmod a b))
 rw[hx]
 cases decide (Int.tmod a b=0)<;>cases (decide (Int.tmod a b<0)==decide (b<0))<;>rfl
theorem jU(k:Nat)(hk:k<18)(a b:Int)(ha:I64 a)(hb:I64 b):f132 ((k:Int)+1) a b=f98 ((k:Int)+1) a b:=by
 have hdiv:b= -1→Int.tdiv a b=0 - a:=λe=>by rw[e,Int.tdiv_neg,Int.tdiv_one];omega
 have hmod:b= -1→Int.tmod a b=0:=λe=>by rw[e,Int.tmod_neg,Int.tmod_one]
 have hm:=wi a b hb
 have hn:b≠0→nz b=true:=λh0=>by simp[nz,h0]
 obtain⟨a1,a2⟩:=ha
 match k,hk with
 |0,_=>rfl
 |1,_=>rfl
 |2,_=>rfl
 |3,_=>
  show(bif decide (b=0) then some (0,false) else Option.bind (f185 a b) λr=>some (r,true))=(bif decide (b=0) then some (0,false) else bif (decide (b= -1)&&true) then some (IntKind.i64.wrap (0 - a),true) else bif decide (b= -1) then some (0,true) else aI (nz b) (some (IntKind.i64.wrap (Int.tdiv a b),true)))
  by_cases h0:b=0
  ·rw[dcT h0];rfl
  ·rw[dcF h0,cdF,cdF,f185,hn h0]
   by_cases h1:b= -1
   ·rw[dcT h1,hdiv h1];rfl
   ·rw[dcF h1];rfl
 |4,_=>
  show(bif decide (b=0) then some (0,false) else Option.bind (f186 a b) λr=>some (r,true))=(bif decide (b=0) then some (0,false) else bif (decide (b= -1)&&false) then some (IntKind.i64.wrap (0 - a),true) else bif decide (b= -1) then some (0,true) else aI (nz b) (some (Int.tmod a b,true)))
  by_cases h0:b=0
  ·rw[dcT h0];rfl
  ·rw[dcF h0,cdF,cdF,f186,hn h0]
   by_cases h1:b= -1
   ·rw[dcT h1,hmod h1];rfl
   ·rw[dcF h1];rfl
 |5,_=>
  show(bif decide (b=0) then some (0,false) else Option.bind (f187 a b) λr=>some (r,true))=(bif decide (b=0) then some (0,false) else bif (decide (b= -1)&&false) then some (IntKind.i64.wrap (0 - a),true) else bif decide (b= -1) then some (0,true) else Option.bind (f143 a b) λr=>some (r,true))
  by_cases h0:b=0
  ·rw[dcT h0];rfl
  ·rw[dcF h0,cdF,cdF,hm h0]
   by_cases h1:b= -1
   ·rw[dcT h1,Bool.and_false,cdF,cdT]
    unfold f143
    rw[hn h0,hmod h1];rfl
   ·rw[dcF h1];rfl
 |6,_=>rfl
 |7,_=>rfl
 |8,_=>rfl
 |9,_=>rfl
 |10,_=>rfl
 |11,_=>rfl
 |12,_=>rfl
 |13,_=>rfl
 |14,_=>rfl
 |15,_=>rfl
 |16,_=>
  show some (f199 a b,true)=(bif decide (a<0) then some (IntKind.i64.wrap (0 - a),true) else some (a,true))
  unfold f199
  by_cases h:a<0
  ·rw[dcT h,cdT]
   congr 2
   split
   ·rfl
   ·rw[IntKind.wrap_i64] at*;omega
  ·rw[dcF h,cdF,if_neg (by rw[w64 oM oM];omega)]
 |17,_=>rfl
 |n+18,h=>omega
theorem f99_ok:∀k,k<18→f99 ((k:Nat)+9:Int)=some ((k:Nat)+1:Int):=by decide+kernel
theorem s88(t:aj)(hl:t.insns.length≤65536)(tR:Nat→Int)(tP tX tD:Int)(hp:0≤tP∧tP<(t.insns.length:Int))(hR:∀j,I64 (tR j))(mH:List aG)(mO:List Obj)(mE:Int)(N:List Int)(S:List (List Int))(U:List Int)(x:aB)(hx:Rg x)(ho:9≤x.op∧x.op≤26):
  ∃r s,f88 tR tP tX tD t.insns mH mO mE N S U [] x=some r∧f54 (av.mk (Mem.mk t S N U) (aq.mk tR tP tX tD) [] 0) x=some s∧Rel t (kP N S U [] r) s:=by
 obtain⟨k,hk⟩:∃k:Nat,x.op=(k:Int)+9:=⟨(x.op - 9).toNat,oM⟩
 have hk18:k<18:=oM
 have hb:=hx.b oM oM
 have e1:IntKind.u8.wrap (1+IntKind.u8.wrap (x.op - 9))=(k:Int)+1:=by
  rw[hk]
  have e:∀v:Int,IntKind.u8.wrap v=v%256:=λv=>by simp[IntKind.wrap,IntKind.signed,IntKind.bits]
  rw[e,e];omega
 have hd:∀n:Int,(n<9∨n>26)→decide (x.op=n)=false:=λn hn=>dcF oM
 unfold f88 f54
 dsimp only
 simp only[ak]
 rw[hx.a,hb,hx.d,e1,jU k hk18 _ _ (hR _) (hR _),hd 1 oM,hd 2 oM,hd 36 oM,hd 37 oM,hd 39 oM,hd 40 oM,hd 41 oM,hk,f99_ok k hk18]
 have h8:∃z,f98 ((k:Int)+1) (tR (Int.toNat x.a)) (tR (Int.toNat x.b))=some z:=by
  obtain⟨z,hz,_⟩:=f132_sat ((k:Int)+1) (tR (Int.toNat x.a)) (tR (Int.toNat x.b))
  exact⟨z,by rw[←jU k hk18 _ _ (hR _) (hR _)];exact hz⟩
 obtain⟨z,hz⟩:=h8
 simp only[cdF,bnS,hz]
 cases z.2
 ·exact⟨_,_,rfl,rfl,by decide,rfl⟩
 ·obtain⟨rn,hn1,hn2⟩:=gi t hl (bW tR (Int.toNat x.d) z.1) tP tX tD hp mH mO mE N S U [] N S U []
  rw[hn1]
  cases rn<;>exact⟨_,_,rfl,rfl,hn2⟩
theorem ob{os:List Obj}{S:List (List Int)}(hS:Shape os S){o k:Int}{y:Obj}(hy:idx os o=some y)(h0:0≤k)(h1:k<y.size):∃row v,idx S o=some row∧idx row k=some v∧(row.length:Int)=y.size∧0≤o∧o<(S.length:Int):=by
 obtain⟨r,hr,hrl⟩:=hS.at (bd hy)
 have hb:=cR hy
 obtain⟨v,hv,_⟩:=aR (L:=r) (i:=k) oM
 refine⟨r,v,?_,hv,hrl,hb.1,by rw[hS.len];exact hb.2⟩
 unfold idx
 rw[dcT hb.1]
 exact hr
inductive tV(t:aj)(tR:Nat→Int)(x:aB)(S:List (List Int)):Prop where
 |bad5 (h:x.op=5∨x.op=6) (hc:(decide (tR (Int.toNat x.a)<0)||decide (tR (Int.toNat x.a)≥x.b))=true)
 |at5 (h:x.op=5∨x.op=6) (hc:(decide (tR (Int.toNat x.a)<0)||decide (tR (Int.toNat x.a)≥x.b))=false) (y:Obj) (row:List Int) (v:Int) (h1:idx t.objs x.n=some y) (h2:idx S x.n=some row) (h3:idx row (IntKind.i64.wrap (x.m+tR (Int.toNat x.a)))=some v) (h4:0≤x.n∧x.n<(S.length:Int)) (h5:0≤IntKind.i64.wrap (x.m+tR (Int.toNat x.a))∧IntKind.i64.wrap (x.m+tR (Int.toNat x.a))<(row.length:Int))
 |bad7 (h:x.op=7∨x.op=8) (hc:(decide (tR (Int.toNat x.a)<1)||decide (tR (Int.toNat x.a)>(t.objs.length:Int)))=true)
 |at7 (h:x.op=7∨x.op=8) (hc:(decide (tR (Int.toNat x.a)<1)||decide (tR (Int.toNat x.a)>(t.objs.length:Int)))=false) (y:Obj) (row:List Int) (v:Int) (h1:idx t.objs (IntKind.i64.wrap (tR (Int.toNat x.a) - 1))=some y) (h2:idx S (IntKind.i64.wrap (tR (Int.toNat x.a) - 1))=some row) (h3:idx row 0=some v) (h4:0≤IntKind.i64.wrap (tR (Int.toNat x.a) - 1)∧IntKind.i64.wrap (tR (Int.toNat x.a) - 1)<(S.length:Int)) (h5:(0:Int)<(row.length:Int))
 |at3 (h:x.op=3∨x.op=4) (y:Obj) (row:List Int) (v:Int) (h1:idx t.objs x.n=some y) (h2:idx S x.n=some row) (h3:idx row x.m=some v) (h4:0≤x.n∧x.n<(S.length:Int)) (h5:0≤x.m∧x.m<(row.length:Int))
theorem qE(t:aj)(hv:VT t)(tR:Nat→Int)(x:aB)(S:List (List Int))(hS:Shape t.objs S)(hf:gJ t x=true)(ho:3≤x.op∧x.op≤8):tV t tR x S:=by
 have hm:eP x=true:=by
  unfold gJ at hf
  rw[Bool.and_eq_true] at hf
  exact hf.1
 have hobj:=hv.objs
 rcases(show(x.op=3∨x.op=4)∨(x.op=5∨x.op=6)∨(x.op=7∨x.op=8) by omega) with h|h|h
 ·have hs:spot t.objs x.n x.m 1=true:=by
   unfold gJ at hf
   rw[Bool.and_eq_true] at hf
   have e:(decide (x.op=3)||decide (x.op=4))=true:=by rcases h with e|e<;>rw[e]<;>rfl
   rw[e,cdT] at hf
   exact hf.2
  obtain⟨y,hy,h0,h1⟩:=fg hs
  have hyo:=hv.o (cy hy)
  rw[w64 oM oM] at h1
  obtain⟨row,v,a,b,c,d,e⟩:=ob hS hy h0 oM
  exact .at3 h y row v hy a b ⟨d,e⟩ oM
 ·cases hc:(decide (tR (Int.toNat x.a)<0)||decide (tR (Int.toNat x.a)≥x.b))
  ·have hs:spot t.objs x.n x.m x.b=true:=by
    unfold gJ at hf
    rw[Bool.and_eq_true] at hf
    have e1:(decide (x.op=3)||decide (x.op=4))=false:=by rcases h with e|e<;>rw[e]<;>rfl
    have e2:(decide (x.op=5)||decide (x.op=6))=true:=by rcases h with e|e<;>rw[e]<;>rfl
    rw[e1,e2,cdF,cdT] at hf
    exact hf.2
   obtain⟨y,hy,h0,h1⟩:=fg hs
   have hyo:=hv.o (cy hy)
   have hb:=ql hm h
   simp only[Bool.or_eq_false_iff,decide_eq_false_iff_not] at hc
   have hb2:x.b≤65536:=by
    have hm2:=hm
    unfold eP at hm2
    have e:jo x.op=[(68,114),(65,114),(66,108),(78,111),(77,115)]:=by
     rcases h with e|e<;>rw[e]
     ·exact vl
     ·exact vk
    rw[e] at hm2
    simp only[Bool.and_eq_true] at hm2
    have:=hm2.2.2
    simp only[fl,rng,f179] at this
    simp at this
    omega
   rw[w64 oM oM] at h1
   have hw:IntKind.i64.wrap (x.m+tR (Int.toNat x.a))=x.m+tR (Int.toNat x.a):=w64 oM oM
   obtain⟨row,v,a,b,c,d,e⟩:=ob hS hy (k:=x.m+tR (Int.toNat x.a)) oM oM
   refine .at5 h ?_ y row v hy a (by rw[hw];exact b) ⟨d,e⟩ (by rw[hw];omega)
   simp only[Bool.or_eq_false_iff,decide_eq_false_iff_not]
   exact hc
  ·exact .bad5 h hc
 ·cases hc:(decide (tR (Int.toNat x.a)<1)||decide (tR (Int.toNat x.a)>(t.objs.length:Int)))
  ·have hc2:=hc
   simp only[Bool.or_eq_false_iff,decide_eq_false_iff_not] at hc2
   have hw:IntKind.i64.wrap (tR (Int.toNat x.a) - 1)=tR (Int.toNat x.a) - 1:=w64 oM oM
   obtain⟨y,hy,hym⟩:=aR (L:=t.objs) (i:=tR (Int.toNat x.a) - 1) oM
   have hyo:=hv.o hym
   obtain⟨row,v,a,b,c,d,e⟩:=ob hS hy (k:=0) oM oM
   exact .at7 h hc y row v (by rw[hw];exact hy) (by rw[hw];exact a) b (by rw[hw];exact⟨d,e⟩) oM
  ·exact .bad7 h hc
theorem inb{S:List (List Int)}{row:List Int}{o k:Int}(h2:idx S o=some row)(h4:0≤o∧o<(S.length:Int))(h5:0≤k∧k<(row.length:Int)):
  (bif (((decide (o<0))||(decide (o≥(List.length S:Int))))||(decide (k<0))) then some true else(Option.bind (idx S o) λx58=>some (decide (k≥(List.length x58:Int)))))=some false:=by
 rw[dcF (show¬o<0 by omega),dcF (show¬o≥(S.length:Int) by omega),dcF (show¬k<0 by omega),h2]
 show some (decide (k≥(row.length:Int)))=some false
 rw[dcF oM]
theorem s81(t:aj)(hl:t.insns.length≤65536)(tR:Nat→Int)(tP tX tD:Int)(hp:0≤tP∧tP<(t.insns.length:Int))(mH:List aG)(mE:Int)(N:List Int)(S:List (List Int))(U:List Int)(x:aB)(hx:Rg x)(hS:S.length=t.objs.length)(hs:tV t tR x S)(ho:x.op=3∨x.op=5∨x.op=7):
  ∃r s,f81 tR tP tX tD t.insns mH t.objs mE N S U [] x=some r∧f51 (av.mk (Mem.mk t S N U) (aq.mk tR tP tX tD) [] 0) x=some s∧Rel t (kP N S U [] r) s:=by
 have nx:=λR=>gi t hl R tP tX tD hp mH t.objs mE N S U [] N S U []
 have k:∀R rn,f131 R tP tX tD t.insns mH t.objs mE N S U []=some rn→(Option.bind (f131 R tP tX tD t.insns mH t.objs mE N S U []) λr69=>Rs.cs r69 (λe71=>some (Rs.bad e71)) (λz70=>some (Rs.ok (z70.1,z70.2.1,z70.2.2.1,z70.2.2.2))))=some rn:=λR rn h=>by
  rw[h];cases rn<;>rfl
 unfold f81 f51
 dsimp only
 simp only[ak]
 rw[hx.a,hx.d]
 cases hs with
 |bad5 h hc=>
  have e:x.op=5:=oM
  rw[e,hc]
  exact⟨_,_,rfl,rfl,by decide,rfl⟩
 |bad7 h hc=>
  have e:x.op=7:=oM
  have hc':=hc
  rw[←hS] at hc'
  rw[e,hc,hc']
  exact⟨_,_,rfl,rfl,by decide,rfl⟩
 |at5 h hc y row v h1 h2 h3 h4 h5=>
  have e:x.op=5:=oM
  obtain⟨rn,n1,n2⟩:=nx (bW tR (Int.toNat x.d) v)
  have hi:=inb h2 h4 h5
  rw[e,hc]
  refine⟨rn,f97 (av.mk (Mem.mk t S N U) (aq.mk (bW tR (Int.toNat x.d) v) tP tX tD) [] 0),?_,?_,n2⟩
  ·show(Option.bind (bif (((decide (x.n<0))||(decide (x.n≥(List.length S:Int))))||(decide (IntKind.i64.wrap (x.m+tR (Int.toNat x.a))<0))) then some true else(Option.bind (idx S x.n) λx58=>some (decide (IntKind.i64.wrap (x.m+tR (Int.toNat x.a))≥(List.length x58:Int))))) λb57=>_)=_
   rw[hi,bnS,cdF,h2,bnS,h3,bnS,h1,bnS,bnS,h3,bnS]
   exact k _ _ n1
  ·show(Option.bind (idx S x.n) λx136=>Option.bind (idx x136 (IntKind.i64.wrap (x.m+tR (Int.toNat x.a)))) λx137=>_)=_
   rw[h2,bnS,h3,bnS]
   rfl
 |at7 h hc y row v h1 h2 h3 h4 h5=>
  have e:x.op=7:=oM
  obtain⟨rn,n1,n2⟩:=nx (bW tR (Int.toNat x.d) v)
  have hi:=inb h2 h4 (show(0:Int)≤0∧(0:Int)<(row.length:Int) by omega)
  have hc':=hc
  rw[←hS] at hc'
  rw[e,hc,hc']
  refine⟨rn,f97 (av.mk (Mem.mk t S N U) (aq.mk (bW tR (Int.toNat x.d) v) tP tX tD) [] 0),?_,?_,n2⟩
  ·show(Option.bind (bif (((decide (IntKind.i64.wrap (tR (Int.toNat x.a) - 1)<0))||(decide (IntKind.i64.wrap (tR (Int.toNat x.a) - 1)≥(List.length S:Int))))||(decide ((0:Int)<0))) then some true else(Option.bind (idx S (IntKind.i64.wrap (tR (Int.toNat x.a) - 1))) λx58=>some (decide ((0:Int)≥(List.length x58:Int))))) λb57=>_)=_
   rw[hi,bnS,cdF,h2,bnS,h3,bnS,h1,bnS,bnS,h3,bnS]
   exact k _ _ n1
  ·show(Option.bind (idx S (IntKind.i64.wrap (tR (Int.toNat x.a) - 1))) λx136=>Option.bind (idx x136 0) λx137=>_)=_
   rw[h2,bnS,h3,bnS]
   rfl
 |at3 h y row v h1 h2 h3 h4 h5=>
  have e:x.op=3:=oM
  obtain⟨rn,n1,n2⟩:=nx (bW tR (Int.toNat x.d) v)
  have hi:=inb h2 h4 h5
  rw[e]
  refine⟨rn,f97 (av.mk (Mem.mk t S N U) (aq.mk (bW tR (Int.toNat x.d) v) tP tX tD) [] 0),?_,?_,n2⟩
  ·show(Option.bind (bif (((decide (x.n<0))||(decide (x.n≥(List.length S:Int))))||(decide (x.m<0))) then some true else(Option.bind (idx S x.n) λx58=>some (decide (x.m≥(List.length x58:Int))))) λb57=>_)=_
   rw[hi,bnS,cdF,h2,bnS,h3,bnS,h1,bnS,bnS,h3,bnS]
   exact k _ _ n1
  ·show(Option.bind (idx S x.n) λx136=>Option.bind (idx x136 x.m) λx137=>_)=_
   rw[h2,bnS,h3,bnS]
   rfl
theorem f64_l1_eq(m:Mem)(k:List (List Int)→Option (Mem×Bool))(hl:m.slots.length<1000000)(hs:∀r∈m.slots,r.length≤1000000000000):∀(n i:Nat)(z:Int),z=(i:Int)→i≤m.slots.length→m.slots.length<n+i→
  f64_l1 m k n z (m.slots.take i)=k m.slots
 |0,i,z,_,_,h=>oM
 |n+1,i,z,hz,hi,h=>by
  subst hz
  rw[f64_l1]
  by_cases hh:i<m.slots.length
  ·have hr:=hs _ (List.getElem_mem hh)
   rw[dO hh,cdT,aA hh,bnS,bE _ (bC oM (by simp;omega)),bE _ (bC oM (by simp;omega)),w1 hh oM,List.nil_append,←List.take_succ_eq_append_getElem hh]
   exact f64_l1_eq m k hl hs n (i+1) _ rfl oM oM
  ·have ei:i=m.slots.length:=oM
   rw[ei,dq,cdF,List.take_length]
theorem f64_eq(m:Mem)(o k v:Int)(y:Obj)(row:List Int)(u:Int)(h1:idx m.t.objs o=some y)(hy:y.set_.length<9223372036854775808)(h2:idx m.slots o=some row)(h3:idx row k=some u)(hl:m.slots.length<1000000)(hs:∀r∈m.slots,r.length≤1000000000000):
  f64 m o k v=some (bif fits y v then(Mem.mk m.t (List.set m.slots (Int.toNat o) (List.set row (Int.toNat k) v)) m.in_ m.out,true) else(m,false)):=by
 unfold f64
 rw[h1,bnS,f34_eq y v hy,bnS]
 cases fits y v
 ·rfl
 ·rw[Bool.not_true,cdF,ak]
  have:=f64_l1_eq m (λl58=>Option.bind (idx l58 o) λx76=>Option.bind (idx x76 k) λv77=>some ((Mem.mk m.t (List.set l58 (Int.toNat o) (List.set x76 (Int.toNat k) v)) m.in_ m.out),true)) hl hs 9223372036854775808 0 0 rfl (Nat.zero_le _) oM
  rw[List.take_zero] at this
  rw[this,h2,bnS,h3,bnS]
  rfl
theorem f145_l1_eq(L:List Int)(v:Int)(hl:L.length<9223372036854775808):∀(n i:Nat)(z:Int),z=(i:Int)→i≤L.length→L.length<n+i→∃r,f145_l1 L v (λ_=>some (-1)) n z=some r∧decide (r≥0)=(L.drop i).any λn=>decide (v=n)
 |0,i,z,_,_,h=>oM
 |n+1,i,z,hz,hi,h=>by
  subst hz
  rw[f145_l1]
  by_cases hh:i<L.length
  ·rw[aM hh,dO hh,cdT,aA hh,bnS,List.any_cons,w1 hh hl]
   cases hc:decide (v=L[i])
   ·rw[cdF,Bool.false_or]
    exact f145_l1_eq L v hl n (i+1) _ rfl oM oM
   ·exact⟨_,rfl,by rw[Bool.true_or];exact dcT oM⟩
  ·have ei:i=L.length:=oM
   subst ei
   rw[dq,cdF,List.drop_eq_nil_of_le (Nat.le_refl _)]
   exact⟨_,rfl,rfl⟩
theorem f104_eq(L:List Int)(v:Int)(hl:L.length<9223372036854775808):f104 L v=some (L.any λn=>decide (v=n)):=by
 unfold f104 f145
 obtain⟨r,h1,h2⟩:=f145_l1_eq L v hl (Int.toNat ((List.length L:Int) - 0)+1) 0 0 rfl (Nat.zero_le _) oM
 rw[ak,h1,bnS,h2,List.drop_zero]
theorem f63_eq(o:Obj)(v:Int)(hl:o.set_.length<9223372036854775808)(hs:∀n∈o.set_,0≤n∧n<9223372036854775807)(hv:I64 v):f63 o v=some (fits o v):=by
 obtain⟨v1,v2⟩:=hv
 unfold f63 fits
 cases o.ptr
 ·rfl
 ·rw[cdT,cdT]
  by_cases h0:v=0
  ·rw[dcT h0];rfl
  ·rw[dcF h0,cdF,f104_eq _ _ hl]
   simp only[bnS]
   congr 1
   rw[Bool.false_or]
   by_cases hp:v>0
   ·rw[dcT hp,Bool.and_true,w64 oM oM,Bool.eq_iff_iff,List.any_eq_true,List.any_eq_true]
    constructor
    ·rintro⟨n,hn,h⟩
     refine⟨n,hn,?_⟩
     have:=hs n hn
     have h:=of_decide_eq_true h
     exact dcT (by rw[w64 oM oM];omega)
    ·rintro⟨n,hn,h⟩
     refine⟨n,hn,?_⟩
     have:=hs n hn
     have h:=of_decide_eq_true h
     rw[w64 oM oM] at h
     exact dcT oM
   ·rw[dcF hp,Bool.and_false]
    symm
    rw[List.any_eq_false]
    intro n hn h
    have:=hs n hn
    have h:=of_decide_eq_true h
    rw[w64 oM oM] at h
    omega
def vg(N:List Int)(U:List Int)(r:Rs ((Nat→Int)×Int×Int×Int×(List (List Int)))):Rs Z8:=Rs.cs r (λe=>Rs.bad e) λz=>Rs.ok (z.1,z.2.1,z.2.2.1,z.2.2.2.1,N,z.2.2.2.2,U,[])
section
variable(t:aj)(hl:t.insns.length≤65536)(tR:Nat→Int)(tP tX tD:Int)(hp:0≤tP∧tP<(t.insns.length:Int))(mH:List aG)(mE:Int)(N:List Int)(S:List (List Int))(U:List Int)
include hl hp
theorem jd(o k v:Int)(y:Obj)(row:List Int)(u:Int)(hI:I64 v)(hy:y.set_.length<9223372036854775808∧∀n∈y.set_,0≤n∧n<9223372036854775807)(h1:idx t.objs o=some y)(h2:idx S o=some row)(h3:idx row k=some u)(hS:S.length<1000000)(hs:∀r∈S,r.length≤1000000000000):
  ∃r s,(Option.bind (f63 y v) λr88=>(bif (!r88) then some (Rs.bad 280) else Option.bind (f131 tR tP tX tD t.insns mH t.objs mE N S U []) λr93=>Rs.cs r93 (λe95=>some (Rs.bad e95)) (λz94=>Option.bind (idx S o) λx97=>Option.bind (idx x97 k) λ_=>some (Rs.ok (z94.1,z94.2.1,z94.2.2.1,z94.2.2.2,(List.set S (Int.toNat o) (List.set x97 (Int.toNat k) v)))))))=some r∧
   (Option.bind (f64 (Mem.mk t S N U) o k v) λr139=>(bif (!r139.2) then some (f96 (Mem.mk t S N U)) else some (f97 (av.mk r139.1 (aq.mk tR tP tX tD) [] 0))))=some s∧Rel t (vg N U r) s:=by
 rw[f63_eq y v hy.1 hy.2 hI,f64_eq (Mem.mk t S N U) o k v y row u h1 hy.1 h2 h3 hS hs]
 cases fits y v
 ·exact⟨_,_,rfl,rfl,by decide,rfl⟩
 ·rcases gC t hl tP hp with h|h
  ·obtain⟨n1,n2⟩:=h tR tX tD mH t.objs mE N S U []
   rw[n1]
   exact⟨_,_,rfl,rfl,by decide,n2 _ _ _ _⟩
  ·obtain⟨n1,n2⟩:=h tR tX tD mH t.objs mE N S U []
   rw[n1]
   simp only[bnS,Rs.cs,h2,h3]
   exact⟨_,_,rfl,rfl,n2 _ _ _ _⟩
theorem s82(hR:∀j,I64 (tR j))(x:aB)(hx:Rg x)(hO:∀y∈t.objs,y.set_.length<9223372036854775808∧∀n∈y.set_,0≤n∧n<9223372036854775807)(hS:S.length=t.objs.length)(hS2:S.length<1000000)(hs2:∀r∈S,r.length≤1000000000000)(hs:tV t tR x S)(ho:x.op=4∨x.op=6∨x.op=8):
  ∃r s,f82 tR tP tX tD t.insns mH t.objs mE N S U [] x=some r∧f51 (av.mk (Mem.mk t S N U) (aq.mk tR tP tX tD) [] 0) x=some s∧Rel t (vg N U r) s:=by
 unfold f82 f51
 dsimp only
 simp only[ak]
 rw[hx.a,hx.d]
 cases hs with
 |bad5 h hc=>
  have e:x.op=6:=oM
  rw[e,hc]
  exact⟨_,_,rfl,rfl,by decide,rfl⟩
 |bad7 h hc=>
  have e:x.op=8:=oM
  have hc':=hc
  rw[←hS] at hc'
  rw[e,hc,hc']
  exact⟨_,_,rfl,rfl,by decide,rfl⟩
 |at5 h hc y row v h1 h2 h3 h4 h5=>
  have e:x.op=6:=oM
  obtain⟨r,s,c1,c2,c3⟩:=jd t hl tR tP tX tD hp mH mE N S U x.n (IntKind.i64.wrap (x.m+tR (Int.toNat x.a))) (tR (Int.toNat x.d)) y row v (hR _) (hO y (cy h1)) h1 h2 h3 hS2 hs2
  have hi:=inb h2 h4 h5
  rw[e,hc]
  refine⟨r,s,?_,c2,c3⟩
  show(Option.bind (bif (((decide (x.n<0))||(decide (x.n≥(List.length S:Int))))||(decide (IntKind.i64.wrap (x.m+tR (Int.toNat x.a))<0))) then some true else(Option.bind (idx S x.n) λx58=>some (decide (IntKind.i64.wrap (x.m+tR (Int.toNat x.a))≥(List.length x58:Int))))) λb57=>_)=_
  rw[hi,bnS,cdF,h2,bnS,h3,bnS,h1,bnS]
  rw[h2] at c1
  exact c1
 |at7 h hc y row v h1 h2 h3 h4 h5=>
  have e:x.op=8:=oM
  obtain⟨r,s,c1,c2,c3⟩:=jd t hl tR tP tX tD hp mH mE N S U (IntKind.i64.wrap (tR (Int.toNat x.a) - 1)) 0 (tR (Int.toNat x.d)) y row v (hR _) (hO y (cy h1)) h1 h2 h3 hS2 hs2
  have hi:=inb h2 h4 (show(0:Int)≤0∧(0:Int)<(row.length:Int) by omega)
  have hc':=hc
  rw[←hS] at hc'
  rw[e,hc,hc']
  refine⟨r,s,?_,c2,c3⟩
  show(Option.bind (bif (((decide (IntKind.i64.wrap (tR (Int.toNat x.a) - 1)<0))||(decide (IntKind.i64.wrap (tR (Int.toNat x.a) - 1)≥(List.length S:Int))))||(decide ((0:Int)<0))) then some true else(Option.bind (idx S (IntKind.i64.wrap (tR (Int.toNat x.a) - 1))) λx58=>some (decide ((0:Int)≥(List.length x58:Int))))) λb57=>_)=_
  rw[hi,bnS,cdF,h2,bnS,h3,bnS,h1,bnS]
  rw[h2] at c1
  exact c1
 |at3 h y row v h1 h2 h3 h4 h5=>
  have e:x.op=4:=oM
  obtain⟨r,s,c1,c2,c3⟩:=jd t hl tR tP tX tD hp mH mE N S U x.n x.m (tR (Int.toNat x.a)) y row v (hR _) (hO y (cy h1)) h1 h2 h3 hS2 hs2
  have hi:=inb h2 h4 h5
  rw[e]
  refine⟨r,s,?_,c2,c3⟩
  show(Option.bind (bif (((decide (x.n<0))||(decide (x.n≥(List.length S:Int))))||(decide (x.m<0))) then some true else(Option.bind (idx S x.n) λx58=>some (decide (x.m≥(List.length x58:Int))))) λb57=>_)=_
  rw[hi,bnS,cdF,h2,bnS,h3,bnS,h1,bnS]
  rw[h2] at c1
  exact c1
end
def ny(m0:Mem)(s:av):Option (Mem×aq×(List Act)×Int):=
 bif (!decide (s.e=0)) then some (m0,(aq.mk (λ_=>0) 0 0 0),[],s.e) else some (s.m,s.r,s.acts,0)
section
variable(m:Mem)(r:aq)(x:aB)(h1:f31 m.t r=true)(h2:idx m.t.insns r.pc=some x)(h3:f50 x.op=true)
include h1 h2 h3
theorem f17_51(s:av)(h:f51 (av.mk m r [] 0) x=some s)(ho:x.op=3∨x.op=4∨x.op=5∨x.op=6∨x.op=7∨x.op=8):f17 m r=ny m s:=by
 unfold f17
 rw[h1,h2,Bool.not_true,cdF,bnS,h3,Bool.not_true,cdF,h]
 rcases ho with e|e|e|e|e|e<;>rw[e]<;>rfl
theorem f17_52(s:av)(h:f52 (av.mk m r [] 0) x=some s)(ho:x.op=29∨x.op=30∨x.op=31∨x.op=32):f17 m r=ny m s:=by
 unfold f17
 rw[h1,h2,Bool.not_true,cdF,bnS,h3,Bool.not_true,cdF,h]
 rcases ho with e|e|e|e<;>rw[e]<;>rfl
theorem f17_53(s:av)(h:f53 (av.mk m r [] 0) x=some s)(ho:x.op=27∨x.op=28∨x.op=33∨x.op=34∨x.op=35∨x.op=38):f17 m r=ny m s:=by
 unfold f17
 rw[h1,h2,Bool.not_true,cdF,bnS,h3,Bool.not_true,cdF,h]
 rcases ho with e|e|e|e|e|e<;>rw[e]<;>rfl
theorem f17_54(s:av)(h:f54 (av.mk m r [] 0) x=some s)(ho:x.op=1∨x.op=2∨(9≤x.op∧x.op≤26)∨x.op=36∨x.op=37∨x.op=39∨x.op=40∨x.op=41):f17 m r=ny m s:=by
 unfold f17
 rw[h1,h2,Bool.not_true,cdF,bnS,h3,Bool.not_true,cdF,h]
 have d:∀n:Int,x.op≠n→decide (x.op=n)=false:=λn hn=>dcF hn
 rw[d 3 oM,d 4 oM,d 5 oM,d 6 oM,d 7 oM,d 8 oM,d 27 oM,d 28 oM,d 29 oM,d 30 oM,d 31 oM,d 32 oM,d 33 oM,d 34 oM,d 35 oM,d 38 oM]
 rfl
end
end Go.Proofs.YtkbahggepncliaaGreatDoor
