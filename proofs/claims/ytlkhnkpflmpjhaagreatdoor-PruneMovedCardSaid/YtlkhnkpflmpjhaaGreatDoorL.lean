/- Part of the proof. -/
import Derived.KernelRfl
import Derived.Test.YtlkhnkpflmpjhaaGreatDoorO
set_option linter.unusedVariables false
set_option linter.unusedSimpArgs false
set_option linter.unusedSectionVars false
set_option linter.unnecessarySimpa false
set_option maxRecDepth 10000
namespace Go.Proofs.YtlkhnkpflmpjhaaGreatDoor
open Go Go.Sk
theorem w64{x:Int}(h1: -9223372036854775808≤x)(h2:x≤9223372036854775807):IntKind.i64.wrap x=x:=by
 rw[IntKind.wrap_i64];omega
theorem dW{α β:Sort _}(k:α)(f:α→β):af k f=f k:=rfl
theorem rB{α:Type}{L:List α}{i:Nat}(h:i<L.length):idx L (i:Int)=some L[i]:=by
 unfold idx
 rw[dcT (Int.natCast_nonneg i)]
 simp[h]
theorem oq{α:Type}{c:Bool}(o:Option α)(h:c=true):fE c o=o:=by rw[h];rfl
theorem m6{κ α:Type}[DecidableEq κ](m:List (κ×α))(k:κ)(v:α)(x:κ):bd (aO m k v) x=if k=x then some v else bd m x:=by
 induction m with
 |nil=>simp[aO,bd]
 |cons p r ih=>
  unfold aO
  by_cases h:p.1=k
  ·rw[if_pos h]
   unfold bd
   by_cases hk:k=x
   ·simp[hk]
   ·simp[hk,h]
  ·rw[if_neg h]
   unfold bd
   rw[ih]
   by_cases hk:k=x
   ·subst hk
    simp[h]
   ·simp[hk]
theorem m5{κ α:Type}[DecidableEq κ](m:List (κ×α))(k:κ)(v:α):(aO m k v).length=if(bd m k).isSome then m.length else m.length+1:=by
 induction m with
 |nil=>simp[aO,bd]
 |cons p r ih=>
  unfold aO bd
  by_cases h:p.1=k
  ·simp[h]
  ·simp only[h,if_false,List.length_cons,ih]
   split<;>rfl
def cnt(a:Int):List Int→List Int→Nat→Nat
 |_,[],N=>N
 |pre,x::r,N=>cnt a (pre++ [x]) r (if x<a∧x∉pre then N+1 else N)
theorem jw(a:Int):∀(r pre:List Int)(N:Nat),N≤cnt a pre r N∧cnt a pre r N≤N+r.length
 |[],_,N=>⟨Nat.le_refl _,Nat.le_refl _⟩
 |x::r,pre,N=>by
  unfold cnt
  have h:=jw a r (pre++ [x]) (if x<a∧x∉pre then N+1 else N)
  rw[List.length_cons]
  split at h<;>split<;>simp_all<;>omega
theorem oQ{at0 pre r:List Int}{x:Int}(h:at0=pre++x::r):idx at0 (pre.length:Int)=some x:=by
 have hl:pre.length<at0.length:=by rw[h];simp
 rw[rB hl]
 subst h
 simp
theorem f6_loop(at0:List Int)(a:Int)(k:List (Int×Bool)→Option Int)(hb:at0.length≤200):∀(r pre:List Int)(m:List (Int×Bool))(fuel:Nat),at0=pre++r→r.length<fuel→(∀x,(bd m x).isSome=true↔x<a∧x∈pre)→
  ∃m',f6_l1 at0 a k fuel (pre.length:Int) m=k m'∧m'.length=cnt a pre r m.length
 |[],pre,m,fuel,h,hf,hm=>by
  obtain⟨n,rfl⟩:∃n,fuel=n+1:=⟨fuel - 1,by simp at hf;omega⟩
  refine⟨m,?_,rfl⟩
  rw[f6_l1,dcF (by rw[h];simp),cdF]
 |x::r,pre,m,fuel,h,hf,hm=>by
  obtain⟨n,rfl⟩:∃n,fuel=n+1:=⟨fuel - 1,oM⟩
  have hlen:at0.length=pre.length+(r.length+1):=by rw[h];simp
  rw[f6_l1,dcT (by rw[hlen];push_cast;omega),cdT,dW,oQ h,bnS]
  have hw:IntKind.i64.wrap ((pre.length:Int)+1)=((pre++ [x]).length:Int):=by
   rw[w64 oM oM];simp
  have hn:at0=(pre++ [x])++r:=by rw[h];simp
  rw[hw]
  by_cases hx:x<a
  ·rw[dcT hx,cdT]
   obtain⟨m',h1,h2⟩:=f6_loop at0 a k hb r (pre++ [x]) (aO m x true) n hn (by simp at hf;omega) (λy=>by
    rw[m6]
    by_cases hy:x=y
    ·subst hy;simp[hx]
    ·rw[if_neg hy,hm y]
     simp only[List.mem_append,List.mem_singleton]
     constructor
     ·rintro⟨h1,h2⟩;exact⟨h1, .inl h2⟩
     ·rintro⟨h1,h2|h2⟩
      ·exact⟨h1,h2⟩
      ·exact absurd h2.symm hy)
   refine⟨m',h1,?_⟩
   rw[h2,m5,cnt]
   by_cases hp:x∈pre
   ·rw[if_pos ((hm x).2 ⟨hx,hp⟩),if_neg λhh=>hh.2 hp]
   ·rw[if_neg (λhh=>hp ((hm x).1 hh).2),if_pos ⟨hx,hp⟩]
  ·rw[dcF hx,cdF]
   obtain⟨m',h1,h2⟩:=f6_loop at0 a k hb r (pre++ [x]) m n hn (by simp at hf;omega) (λy=>by
    rw[hm y]
    simp only[List.mem_append,List.mem_singleton]
    constructor
    ·rintro⟨h1,h2⟩;exact⟨h1, .inl h2⟩
    ·rintro⟨h1,h2|h2⟩
     ·exact⟨h1,h2⟩
     ·subst h2;exact absurd h1 hx)
   refine⟨m',h1,?_⟩
   rw[h2,cnt,if_neg λhh=>hx hh.1]
theorem f7_in(at0:List Int)(x:Int)(k:Bool→Option Int)(hb:at0.length≤200)(pre:List Int)(r:List Int)(h:at0=pre++x::r):∀(q p:List Int)(again:Bool)(fuel:Nat),pre=p++q→q.length<fuel→
  f7_l2 at0 (pre.length:Int) k fuel again (p.length:Int)=k (again||decide (x∈q))
 |[],p,again,fuel,hp,hf=>by
  obtain⟨n,rfl⟩:∃n,fuel=n+1:=⟨fuel - 1,by simp at hf;omega⟩
  rw[f7_l2,dcF (by rw[hp];simp),cdF]
  simp
 |y::q,p,again,fuel,hp,hf=>by
  obtain⟨n,rfl⟩:∃n,fuel=n+1:=⟨fuel - 1,oM⟩
  have hl:at0.length=pre.length+(r.length+1):=by rw[h];simp
  have hl2:pre.length=p.length+(q.length+1):=by rw[hp];simp
  rw[f7_l2,dcT (by rw[hl2];push_cast;omega),cdT]
  have e1:idx at0 (p.length:Int)=some y:=oQ (r:=q++x::r) (by rw[h,hp];simp)
  have e2:=oQ h
  have hw:IntKind.i64.wrap ((p.length:Int)+1)=((p++ [y]).length:Int):=by
   rw[w64 oM oM];simp
  have ih:=λb=>f7_in at0 x k hb pre r h q (p++ [y]) b n (by rw[hp];simp) (by simp at hf;omega)
  cases again with
  |true=>
   rw[cdT,bnS,hw,ih true]
   simp
  |false=>
   rw[cdF,e1,bnS,e2,bnS,bnS,hw,ih]
   congr 1
   by_cases hxy:y=x
   ·simp[hxy]
   ·have:¬x=y:=λe=>hxy e.symm
    simp[hxy,this]
theorem f7_loop(at0:List Int)(a:Int)(k:Int→Option Int)(hb:at0.length≤200):∀(r pre:List Int)(N fuel:Nat),at0=pre++r→r.length<fuel→N≤pre.length→
  f7_l1 at0 a k fuel (N:Int) (pre.length:Int)=k (cnt a pre r N:Nat)
 |[],pre,N,fuel,h,hf,hN=>by
  obtain⟨n,rfl⟩:∃n,fuel=n+1:=⟨fuel - 1,by simp at hf;omega⟩
  rw[f7_l1,dcF (by rw[h];simp),cdF]
  rfl
 |x::r,pre,N,fuel,h,hf,hN=>by
  obtain⟨n,rfl⟩:∃n,fuel=n+1:=⟨fuel - 1,oM⟩
  have hlen:at0.length=pre.length+(r.length+1):=by rw[h];simp
  have hw:IntKind.i64.wrap ((pre.length:Int)+1)=((pre++ [x]).length:Int):=by
   rw[w64 oM oM];simp
  have hn:at0=(pre++ [x])++r:=by rw[h];simp
  rw[f7_l1,dcT (by rw[hlen];push_cast;omega),cdT,dW,dW]
  obtain⟨F,hF⟩:∃F:Nat,F=9223372036854775808:=⟨_,rfl⟩
  rw[←hF]
  have:=f7_in at0 x (λagain60=>Option.bind (idx at0 (pre.length:Int)) λx71=>bif (decide (x71<a)&& !again60) then f7_l1 at0 a k n (IntKind.i64.wrap ((N:Int)+1)) (IntKind.i64.wrap ((pre.length:Int)+1)) else f7_l1 at0 a k n (N:Int) (IntKind.i64.wrap ((pre.length:Int)+1))) hb pre r h pre [] false F rfl oM
  rw[List.length_nil] at this
  refine this.trans ?_
  rw[oQ h,bnS,hw,Bool.false_or,cnt]
  have hw2:IntKind.i64.wrap ((N:Int)+1)=((N+1:Nat):Int):=by rw[w64 oM oM];simp
  by_cases hx:x<a∧x∉pre
  ·rw[dcT hx.1,dcF hx.2,if_pos hx,hw2]
   exact f7_loop at0 a k hb r (pre++ [x]) (N+1) n hn (by simp at hf;omega) (by simp;omega)
  ·rw[if_neg hx]
   have:(decide (x<a)&& !decide (x∈pre))=false:=by
    by_cases h1:x<a
    ·have h2:x∈pre:=Classical.byContradiction λh2=>hx ⟨h1,h2⟩
     simp[h2]
    ·simp[h1]
   rw[this,cdF]
   exact f7_loop at0 a k hb r (pre++ [x]) N n hn (by simp at hf;omega) (by simp;omega)
theorem f8_loop(l:List Int)(k:Unit→Option Bool)(hb:l.length≤200):∀(r pre:List Int)(fuel:Nat),l=pre++r→r.length<fuel→f8_l1 l l k fuel (pre.length:Int)=k ()
 |[],pre,fuel,h,hf=>by
  obtain⟨n,rfl⟩:∃n,fuel=n+1:=⟨fuel - 1,by simp at hf;omega⟩
  rw[f8_l1,dcF (by rw[h];simp),cdF]
 |x::r,pre,fuel,h,hf=>by
  obtain⟨n,rfl⟩:∃n,fuel=n+1:=⟨fuel - 1,oM⟩
  have hlen:l.length=pre.length+(r.length+1):=by rw[h];simp
  have hw:IntKind.i64.wrap ((pre.length:Int)+1)=((pre++ [x]).length:Int):=by
   rw[w64 oM oM];simp
  rw[f8_l1,dcT (by rw[hlen];push_cast;omega),cdT,oQ h,bnS,bnS,dcT rfl,Bool.not_true,cdF,hw]
  exact f8_loop l k hb r (pre++ [x]) n (by rw[h];simp) (by simp at hf;omega)
theorem f6_eq(l:List Int)(a:Int)(hb:l.length≤200):f6 l a=some (IntKind.i64.wrap (a - (cnt a [] l 0:Nat))):=by
 unfold f6
 rw[dW]
 obtain⟨m',h1,h2⟩:=f6_loop l a (λm28=>some (IntKind.i64.wrap (a - (List.length m28:Int)))) hb l [] [] (Int.toNat ((List.length l:Int) - 0)+1) rfl oM (λx=>by simp[bd])
 rw[List.length_nil] at h1 h2
 rw[show((0:Nat):Int)=0 from rfl] at h1
 rw[h1,h2]
theorem f7_eq(l:List Int)(a:Int)(hb:l.length≤200):f7 l a=some (IntKind.i64.wrap (a - (cnt a [] l 0:Nat))):=by
 unfold f7
 rw[dW]
 obtain⟨F,hF⟩:∃F:Nat,F=9223372036854775808:=⟨_,rfl⟩
 rw[←hF]
 have:=f7_loop l a (λn50=>some (IntKind.i64.wrap (a - n50))) hb l [] 0 F rfl oM (Nat.le_refl _)
 rw[List.length_nil] at this
 exact this
theorem f8_eq(l:List Int)(hb:l.length≤200):f8 l l=some true:=by
 unfold f8
 rw[dcT rfl,Bool.not_true,cdF,dW]
 obtain⟨F,hF⟩:∃F:Nat,F=9223372036854775808:=⟨_,rfl⟩
 rw[←hF]
 exact f8_loop l (λ_=>some true) hb l [] F rfl oM
theorem m8(l:List Int)(a:Int):f3 l a=some true:=by
 unfold f3
 by_cases h:(List.length l:Int)>200
 ·rw[dcT h,cdT]
  rfl
 ·have hb:l.length≤200:=oM
  rw[dcF h,cdF,oq _ (by unfold ge;simp only[maxLen,List.length_nil];rw[Bool.and_eq_true];exact⟨dcT oM,dcT oM⟩),List.nil_append,f6_eq l a hb,bnS,f7_eq l a hb,bnS,dcT rfl,cdT,f8_eq l hb]
  rfl
end Go.Proofs.YtlkhnkpflmpjhaaGreatDoor
