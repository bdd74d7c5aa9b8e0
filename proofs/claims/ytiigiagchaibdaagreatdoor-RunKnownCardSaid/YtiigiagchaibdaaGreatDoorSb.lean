/-
  Regions that draw their order, of any kind: each operation is shown alone, over what its predecessors surely have left.
-/
import Derived.Laws.StructEq
import Derived.Laws.Cover3
import Derived.Laws.Pointers
import Derived.Laws.Strings3
import Derived.Laws.DeepStrings4
import Derived.Laws.Strings
import Derived.WideKeyRuns
import Derived.WideLaws
import Derived.RecoverIn
import Derived.Test.YtiigiagchaibdaaGreatDoorSa
set_option linter.unusedVariables false
set_option linter.unusedSimpArgs false
set_option linter.unusedSectionVars false
set_option linter.unnecessarySimpa false
namespace Go.Sk
open Go.RowKit (Below)
def FL(base:Env)(L:Nat→Bool):List (Nat×Nat×AV)→Env
 |[]=>base
 |(k,d,r)::rest=>bif L k then(d,r)::FL base L rest else FL base L rest
def aH:List Oper→List AV→Nat→List (Nat×Nat×AV)
 |o::l,r::rs,k=>(match o.dst with|some d=>(k,d,r)::aH l rs (k+1)|none=>aH l rs (k+1))
 |_,_,_=> []
theorem an(k:Nat)(v:AV)(r:Env)(t:Nat):Env.get ((k,v)::r) t=if t=k then some v else Env.get r t:=by
 conv=>lhs;unfold Env.get
 by_cases h:t=k
 ·subst h;simp
 ·have:Nat.beq t k=false:=by
   cases hb:Nat.beq t k with
   |false=>rfl
   |true=>exact absurd (nbE hb) h
  rw[this,if_neg h];rfl
theorem jk{base:Env}{L:Nat→Bool}{k d:Nat}{r:AV}:∀{reg:List (Nat×Nat×AV)},(reg.map (·.2.1)).Nodup→(k,d,r)∈reg→L k=true→(FL base L reg).get d=some r
 |(j,d',r')::reg,hn,hm,hL=>by
  simp only[List.map_cons,List.nodup_cons] at hn
  rcases List.mem_cons.1 hm with h|h
  ·simp only[Prod.mk.injEq] at h
   obtain⟨rfl,rfl,rfl⟩:=h
   simp[FL,hL,an]
  ·have hne:d≠d':=λhe=>hn.1 (by subst he;exact List.mem_map.2 ⟨_,h,rfl⟩)
   have:=jk (base:=base) hn.2 h hL
   unfold FL
   cases L j
   ·exact this
   ·rw[cdT,an,if_neg hne];exact this
theorem k5{base:Env}{L:Nat→Bool}{t:Nat}:∀{reg:List (Nat×Nat×AV)},(∀k r,(k,t,r)∈reg→L k=false)→(FL base L reg).get t=base.get t
 |[],_=>rfl
 |(j,d',r')::reg,h=>by
  have ih:=k5 (base:=base) (L:=L) (t:=t) (reg:=reg) (λk r hm=>h k r (List.mem_cons_of_mem _ hm))
  unfold FL
  cases hL:L j
  ·exact ih
  ·have hne:t≠d':=λhe=>by
    have:=h j r' (by rw[he];exact List.mem_cons_self)
    rw[hL] at this;cases this
   rw[cdT,an,if_neg hne];exact ih
theorem kZ{base:Env}{L L':Nat→Bool}{k t:Nat}:∀{reg:List (Nat×Nat×AV)},(∀j,j≠k→L' j=L j)→(∀r,(k,t,r)∉reg)→(FL base L' reg).get t=(FL base L reg).get t
 |[],_,_=>rfl
 |(j,d',r')::reg,h,hk=>by
  have ih:=kZ (base:=base) (reg:=reg) h (λr hr=>hk r (List.mem_cons_of_mem _ hr))
  unfold FL
  by_cases hjk:j=k
  ·subst hjk
   have hne:t≠d':=λhe=>hk r' (by rw[he];exact List.mem_cons_self)
   cases L' j<;>cases L j<;>simp only[cdT,cdF,an,if_neg hne,ih]
  ·rw[h j hjk]
   cases L j
   ·exact ih
   ·rw[cdT,cdT,an,an,ih]
theorem gv:∀{l:List Oper}{rs:List AV}{k j d:Nat}{r:AV},(j,d,r)∈aH l rs k→k≤j∧∃o,l[j - k]? =some o∧o.dst=some d∧rs[j - k]? =some r
 |[],rs,k,j,d,r,h=>by simp[aH] at h
 |o::l,[],k,j,d,r,h=>by simp[aH] at h
 |o::l,r0::rs,k,j,d,r,h=>by
  unfold aH at h
  have key:(j,d,r)∈aH l rs (k+1)→k≤j∧∃o',(o::l)[j - k]? =some o'∧o'.dst=some d∧(r0::rs)[j - k]? =some r:=λh=>by
   obtain⟨h1,o',h2,h3,h4⟩:=gv h
   have:j - k=(j - (k+1))+1:=oM
   exact⟨oM,o',by rw[this];simpa using h2,h3,by rw[this];simpa using h4⟩
  split at h
  ·rename_i d0 hd
   rcases List.mem_cons.1 h with h|h
   ·simp only[Prod.mk.injEq] at h
    obtain⟨rfl,rfl,rfl⟩:=h
    exact⟨Nat.le_refl _,o,sM,hd,sM⟩
   ·exact key h
  ·exact key h
theorem eo:∀{l:List Oper}{rs:List AV}{k j d:Nat}{r:AV}{o:Oper},l[j]? =some o→o.dst=some d→rs[j]? =some r→(k+j,d,r)∈aH l rs k
 |[],rs,k,j,d,r,o,h,_,_=>by simp at h
 |o0::l,[],k,j,d,r,o,_,_,h=>by simp at h
 |o0::l,r0::rs,k,0,d,r,o,h1,h2,h3=>by
  simp only[List.getElem?_cons_zero,aa] at h1 h3
  subst h1;subst h3
  simp[aH,h2]
 |o0::l,r0::rs,k,j+1,d,r,o,h1,h2,h3=>by
  have:=eo (k:=k+1) (by simpa using h1:l[j]? =some o) h2 (by simpa using h3:rs[j]? =some r)
  rw[show k+(j+1)=k+1+j by omega]
  unfold aH
  split
  ·exact List.mem_cons_of_mem _ this
  ·exact this
def oS(ops:List Oper)(tc:List (List Nat)):Bool:=
 (List.range ops.length).all λk=>match ops[k]? with
  |none=>false
  |some o=>(o.after.toList.all λe=> !(Region.binds .any e)||Nat.blt e.on k)&&
   (tc.getD k []).all λj=>o.after.toList.any λe=>Region.binds .any e&&(Nat.beq e.on j||(tc.getD e.on []).contains j)
def ne(ops:List Oper)(L:Nat→Bool):Prop:=∀(k:Nat)(o:Oper),ops[k]? =some o→L k=true→∀e∈o.after,Region.binds .any e=true→L e.on=true
theorem dp{ops:List Oper}{tc:List (List Nat)}(hok:oS ops tc=true){L:Nat→Bool}(hd:ne ops L):∀(k:Nat)(o:Oper),ops[k]? =some o→(∀e∈o.after,Region.binds .any e=true→L e.on=true)→∀j∈tc.getD k [],L j=true:=by
 intro k
 induction k using Nat.strongRecOn with
 |_ k ih=>
  intro o ho hall j hj
  have hk:k<ops.length:=(giS.1 ho).1
  have h1:=List.all_eq_true.1 hok k (List.mem_range.2 hk)
  simp only[ho,Bool.and_eq_true] at h1
  have h2:=List.any_eq_true.1 (List.all_eq_true.1 h1.2 j hj)
  obtain⟨e,he,h3⟩:=h2
  simp only[Bool.and_eq_true,Bool.or_eq_true] at h3
  have hea:e∈o.after:=Array.mem_toList_iff.1 he
  have hL:=hall e hea h3.1
  rcases h3.2 with h4|h4
  ·rw[←nbE h4];exact hL
  ·have h5:=List.all_eq_true.1 h1.1 e he
   simp only[h3.1,Bool.not_true,Bool.false_or] at h5
   have hlt:e.on<k:=by simpa[Nat.blt_eq] using h5
   cases hoe:ops[e.on]? with
   |none=>exact absurd (List.getElem?_eq_none_iff.1 hoe) oM
   |some o'=>exact ih e.on hlt o' hoe (λe' he' hb=>hd e.on o' hoe hL e' he' hb) j (by simpa using h4)
def cnt(L:Nat→Bool):List Nat→Nat
 |[]=>0
 |e::es=>bif L e then cnt L es+1 else 0
def eko(l:List Oper)(rs:List AV)(j:Nat):Option (Nat×AV):=match l[j]?,rs[j]? with
 |some o,some r=>o.dst.map λd=>(d,r)
 |_,_=>none
def ekB(base:Env):List Nat→Env
 |x::bk=>(match base.get x with|some v=>(x,v)::ekB base bk|none=>ekB base bk)
 |[]=> []
def ekP(l:List Oper)(rs:List AV)(tail:Env):List Nat→Env
 |j::pk=>(match eko l rs j with|some p=>p::ekP l rs tail pk|none=>ekP l rs tail pk)
 |[]=>tail
def bQ(l:List Oper)(rs:List AV)(base:Env)(pk bk:List Nat):Env:=ekP l rs (ekB base bk) pk
def Ob(P:Program)(e:En)(l:List Oper)(rs:List AV)(base:Env)(sts:Nat→List AO)(k:Nat)(o:Oper)(pk bk:List Nat)(c c':Nat):Prop:=
 ∀F:Env,WL P e l.toArray [o] (bQ l rs base pk bk++F) (sts c) λenv' st'=>st'=sts c'∧∃pre,env'=pre++(bQ l rs base pk bk++F)∧
  (∀t x,pre.get t=some x→o.dst=some t)∧∀d r,o.dst=some d→rs[k]? =some r→pre.get d=some r
def ObC(P:Program)(e:En)(l:List Oper)(rs:List AV)(base:Env)(sts:Nat→List AO)(k:Nat)(o:Oper)(pk bk:List Nat)(up:Bool):List Nat→Prop
 |[]=>True
 |c::cs=>Ob P e l rs base sts k o pk bk c (bif up then c+1 else c)∧ObC P e l rs base sts k o pk bk up cs
def Obs(P:Program)(e:En)(l:List Oper)(rs:List AV)(base:Env)(sts:Nat→List AO)(es:List Nat):Nat→List Oper→List (List Nat×List Nat×List Nat)→Prop
 |k,o::ol,p::ps=>ObC P e l rs base sts k o p.1 p.2.1 (es.contains k) p.2.2∧Obs P e l rs base sts es (k+1) ol ps
 |_,_,_=>True
theorem oE{P e l rs base sts k o pk bk up}:∀{cs:List Nat},ObC P e l rs base sts k o pk bk up cs→∀c∈cs,Ob P e l rs base sts k o pk bk c (bif up then c+1 else c)
 |c::cs,h,c',hc=>by
  rcases List.mem_cons.1 hc with rfl|hc
  ·exact h.1
  ·exact oE h.2 c' hc
theorem oD{P e l rs base sts es}:∀{ol:List Oper}{ps:List (List Nat×List Nat×List Nat)}{k j:Nat}{o:Oper}{p:List Nat×List Nat×List Nat},Obs P e l rs base sts es k ol ps→ol[j]? =some o→ps[j]? =some p→ObC P e l rs base sts (k+j) o p.1 p.2.1 (es.contains (k+j)) p.2.2
 |o0::ol,p0::ps,k,0,o,p,h,h1,h2=>by
  simp only[List.getElem?_cons_zero,aa] at h1 h2
  subst h1;subst h2;exact h.1
 |o0::ol,p0::ps,k,j+1,o,p,h,h1,h2=>by
  have:=oD h.2 (by simpa using h1:ol[j]? =some o) (by simpa using h2:ps[j]? =some p)
  rw[show k+(j+1)=k+1+j by omega];exact this
 |[],_,_,_,_,_,_,h1,_=>by simp at h1
 |_::_,[],_,_,_,_,_,_,h2=>by simp at h2
def cC:List Nat→Bool
 |[]=>true
 |x::l=> !(l.contains x)&&cC l
theorem cw:∀{l:List Nat},cC l=true→l.Nodup
 |[],_=>List.nodup_nil
 |x::l,h=>by
  simp only[cC,Bool.and_eq_true,Bool.not_eq_true',List.contains_eq_mem,decide_eq_false_iff_not] at h
  exact List.nodup_cons.2 ⟨h.1,cw h.2⟩
def f'(l:List Oper)(tc:List (List Nat))(es:List Nat)(plan:List (List Nat×List Nat×List Nat)):Bool:=
 oS l tc&&cC (l.filterMap (·.dst))&&cC es&&Nat.beq plan.length l.length&&
 ((List.range es.length).all λi=>match es[i]?,es[i+1]? with|some x,some y=>(tc.getD y []).contains x|_,_=>true)&&
 (List.range l.length).all λk=>match plan[k]? with
  |none=>false
  |some (pk,bk,cs)=>(pk.all λj=>(tc.getD k []).contains j)&&(!(es.contains k)||cs.all λc=>es[c]? ==some k)&&
   (bk.all λx=>(List.range l.length).all λj=>match l[j]? with|some o=> !(o.dst==some x)||Nat.beq j k||(tc.getD j []).contains k|none=>true)&&
   (List.range (es.length+1)).all λc=>cs.contains c||(match es[c]? with|some y=>(tc.getD k []).contains y|none=>false)||
    (es.take c).any λy=>Nat.beq y k||(tc.getD y []).contains k
theorem ra{l:List Oper}{rs:List AV}{j t:Nat}{x:AV}(h:eko l rs j=some (t,x)):(j,t,x)∈aH l rs 0:=by
 unfold eko at h
 split at h
 ·rename_i o r h1 h2
  cases hd:o.dst with
  |none=>simp[hd] at h
  |some d=>
   simp only[hd,Option.map_some,aa,Prod.mk.injEq] at h
   obtain⟨rfl,rfl⟩:=h
   have:=eo (k:=0) h1 hd h2
   simpa using this
 ·cases h
theorem ea{base:Env}{t:Nat}{x:AV}:∀{bk:List Nat},(ekB base bk).get t=some x→t∈bk∧base.get t=some x
 |y::bk,h=>by
  unfold ekB at h
  split at h
  ·rename_i v hv
   rw[an] at h
   split at h
   ·rename_i htd
    simp only[aa] at h
    subst h;subst htd
    exact⟨List.mem_cons_self,hv⟩
   ·exact⟨List.mem_cons_of_mem _ (ea h).1,(ea h).2⟩
  ·exact⟨List.mem_cons_of_mem _ (ea h).1,(ea h).2⟩
 |[],h=>by simp[ekB,Env.get] at h
theorem ig{l:List Oper}{rs:List AV}{base:Env}{t:Nat}{x:AV}{bk:List Nat}:∀{pk:List Nat},(bQ l rs base pk bk).get t=some x→(∃j∈pk,(j,t,x)∈aH l rs 0)∨(t∈bk∧base.get t=some x)
 |j::pk,h=>by
  unfold bQ ekP at h
  split at h
  ·rename_i p hp
   obtain⟨d,r⟩:=p
   rw[an] at h
   split at h
   ·rename_i htd
    simp only[aa] at h
    subst h;subst htd
    exact .inl ⟨j,List.mem_cons_self,ra hp⟩
   ·rcases ig (pk:=pk) h with⟨j',h1,h2⟩|h1
    ·exact .inl ⟨j',List.mem_cons_of_mem _ h1,h2⟩
    ·exact .inr h1
  ·rcases ig (pk:=pk) h with⟨j',h1,h2⟩|h1
   ·exact .inl ⟨j',List.mem_cons_of_mem _ h1,h2⟩
   ·exact .inr h1
 |[],h=> .inr (ea h)
theorem ma{L:Nat→Bool}:∀{es:List Nat},∀y∈es.take (cnt L es),L y=true
 |[],y,h=>by simp[cnt] at h
 |e::es,y,h=>by
  unfold cnt at h
  cases hL:L e with
  |false=>simp[hL] at h
  |true=>
   rw[hL,cdT,List.take_succ_cons] at h
   rcases List.mem_cons.1 h with rfl|h
   ·exact hL
   ·exact ma y h
theorem me{L:Nat→Bool}:∀{es:List Nat}{y:Nat},es[cnt L es]? =some y→L y=false
 |[],y,h=>by simp[cnt] at h
 |e::es,y,h=>by
  unfold cnt at h
  cases hL:L e with
  |false=>simp only[hL,cdF,List.getElem?_cons_zero,aa] at h;rw[←h];exact hL
  |true=>simp only[hL,cdT,List.getElem?_cons_succ] at h;exact me h
theorem rk{L:Nat→Bool}:∀{es:List Nat},cnt L es≤es.length
 |[]=>Nat.le_refl _
 |e::es=>by unfold cnt;cases L e<;>simp[rk]
theorem jU{L L':Nat→Bool}{k:Nat}(h:∀j,j≠k→L' j=L j):∀{es:List Nat},k∉es→cnt L' es=cnt L es
 |[],_=>rfl
 |e::es,hk=>by
  have h1:e≠k:=λhe=>hk (by rw[he];exact List.mem_cons_self)
  unfold cnt
  rw[h e h1,jU h (λhm=>hk (List.mem_cons_of_mem _ hm))]
theorem mc{L L':Nat→Bool}{k:Nat}(h:∀j,j≠k→L' j=L j)(hk:L k=false)(hk':L' k=true):∀{es:List Nat},es.Nodup→es[cnt L es]? =some k→(∀y,es[cnt L es+1]? =some y→L y=false)→cnt L' es=cnt L es+1
 |[],_,h1,_=>by simp at h1
 |e::es,hn,h1,h2=>by
  obtain⟨n1,n2⟩:=List.nodup_cons.1 hn
  cases hL:L e with
  |true=>
   have hek:e≠k:=λhe=>by subst he;rw[hk] at hL;cases hL
   have e1:cnt L (e::es)=cnt L es+1:=by simp[cnt,hL]
   rw[e1] at h1 h2⊢
   have:=mc h hk hk' n2 (by simpa using h1) (λy hy=>h2 y (by simpa using hy))
   simp[cnt,h e hek,hL,this]
  |false=>
   have e1:cnt L (e::es)=0:=by simp[cnt,hL]
   rw[e1] at h1 h2⊢
   simp only[List.getElem?_cons_zero,aa] at h1
   subst h1
   have:cnt L' es=0:=by
    cases es with
    |nil=>rfl
    |cons y es=>
     have hy:=h2 y sM
     have hne:y≠e:=λhe=>n1 (by rw[he];exact List.mem_cons_self)
     simp[cnt,h y hne,hy]
   simp[cnt,hk',this]
theorem t5{es:List Nat}:∀{L:Nat→Bool},(∀y∈es,L y=true)→cnt L es=es.length:=by
 induction es with
 |nil=>intros;rfl
 |cons e es ih=>intro L h;simp[cnt,h e List.mem_cons_self,ih (λy hy=>h y (List.mem_cons_of_mem _ hy))]
theorem gD:∀{l:List Bool}{i:Nat},l[i]? =some false→(l.set i true).count false+1=l.count false
 |[],i,h=>by simp at h
 |b::l,0,h=>by simp only[List.getElem?_cons_zero,aa] at h;subst h;simp
 |b::l,i+1,h=>by
  have:=gD (l:=l) (i:=i) (by simpa using h)
  cases b<;>simp<;>omega
section
variable{P:Program}{e:En}{l:List Oper}{rs:List AV}{base:Env}{sts:Nat→List AO}{es:List Nat}
def At(e:En)(l:List Oper)(rs:List AV)(base:Env)(sts:Nat→List AO)(es:List Nat)(L:Nat→Bool)(a:Act)(w:World):Prop:=
 ∃m φ,Inv e m φ (FL base L (aH l rs 0)) (sts (cnt L es)) a w
theorem is{r:Option Nat}{Q':Exit→Act→World→Prop}{k:Nat}{o:Oper}{env:Env}{st:List AO}{R:Env→List AO→Prop}{m φ a w}{K:Act→World→Prop}(hnd:av l=true)(ho:l[k]? =some o)(h:WL P e l.toArray [o] env st R)(hi:Inv e m φ env st a w)
  (hK:∀a' w' env' st' m' φ',R env' st'→Inv e m' φ' env' st' a' w'→K a' w'):wpOpIn (EF r) 0 P l.toArray Q' k K a w:=by
 have h1:=h m φ a w hi
 have ho':l.toArray[k]? =some o:=by simpa using ho
 unfold wpOpIn
 simp only[ho']
 unfold cA at h1
 have key:∀(a':Act)(w':World),cA P l.toArray (kp e R) [] a' w'→K a' w':=by
  rintro a' w' ⟨_,env',st',m',φ',hR,hi'⟩
  exact hK a' w' env' st' m' φ' hR hi'
 have hd:=cx hnd ho
 split
 ·rename_i hw
  rw[if_pos hw] at h1
  rcases h1 with h1|h1
  ·refine Oper.wpIn_mono key (dH hd ?_)
   unfold Oper.wp at*
   generalize(execOp a.eval o).run P w=rr at*
   cases rr with
   |ok n w'=>
    cases n<;>simp only[Oper.upon] at h1⊢
    case value v=>exact h1
    case skip=>exact h1
    case defer d=>exact h1
    case enter g args=>
     refine Calls.mono h1 λen w'' he=>?_
     cases en with
     |returned u=>exact he
     |panicked c=>exact absurd he.1 sM
     |outgrown=>obtain⟨_,_,h0⟩:=he;exact absurd h0.1 sM
    case row row args=>exact h1
   |halt x w'=>cases x<;>simp only[Oper.upon] at h1⊢;exact absurd h1.1 sM
  ·exact Oper.wpIn_mono key (d4 hd h1)
 ·rename_i hw
  rw[if_neg hw] at h1
  exact⟨λ_ _=>trivial,key _ _ h1⟩
theorem ek:∀{l:List Oper}{rs:List AV}{k:Nat},(l.filterMap (·.dst)).Nodup→((aH l rs k).map (·.2.1)).Nodup∧∀d∈(aH l rs k).map (·.2.1),d∈l.filterMap (·.dst)
 |[],rs,k,_=>by simp[aH]
 |o::l,[],k,_=>by simp[aH]
 |o::l,r::rs,k,h=>by
  unfold aH
  cases hd:o.dst with
  |none=>
   simp only[List.filterMap_cons,hd] at h⊢
   exact ek h
  |some d=>
   simp only[List.filterMap_cons,hd] at h⊢
   obtain⟨h1,h2⟩:=List.nodup_cons.1 h
   obtain⟨h3,h4⟩:=ek (rs:=rs) (k:=k+1) h2
   refine⟨?_,?_⟩
   ·simp only[List.map_cons]
    exact List.nodup_cons.2 ⟨λhm=>h1 (h4 d hm),h3⟩
   ·intro d' hd'
    simp only[List.map_cons] at hd'
    rcases List.mem_cons.1 hd' with rfl|hd'
    ·exact List.mem_cons_self
    ·exact List.mem_cons_of_mem _ (h4 d' hd')
theorem rt{Q':Exit→Act→World→Prop}(hnf:av l=true){tc:List (List Nat)}{plan:List (List Nat×List Nat×List Nat)}(hok:f' l tc es plan=true)(hrs:rs.length=l.length)
  {L L':Nat→Bool}{k:Nat}{o:Oper}(hobs:∀p,plan[k]? =some p→ObC P e l rs base sts (0+k) o p.1 p.2.1 (es.contains (0+k)) p.2.2)(ho:l[k]? =some o)(hd:ne l L)(hLn:∀y,L y=true→y<l.length)(hk:L k=false)(hpre:∀e∈o.after,Region.binds .any e=true→L e.on=true)
  (hL:∀j,j≠k→L' j=L j)(hk':L' k=true){a:Act}{w:World}(hat:At e l rs base sts es L a w):
  wpOpIn (EF e.rd) 0 P l.toArray Q' k (λa' w'=>At e l rs base sts es L' a' w') a w:=by
 obtain⟨m,φ,hi⟩:=hat
 simp only[f',Bool.and_eq_true] at hok
 obtain⟨⟨⟨⟨⟨htc,hnd⟩,hne⟩,hpl⟩,hch⟩,hall⟩:=hok
 have hkl:k<l.length:=(giS.1 ho).1
 have h1:=List.all_eq_true.1 hall k (List.mem_range.2 hkl)
 cases hp:plan[k]? with
 |none=>simp[hp] at h1
 |some p=>
  obtain⟨pk,bk,cs⟩:=p
  simp only[hp,Bool.and_eq_true] at h1
  obtain⟨⟨⟨hpk,hself⟩,hbk⟩,hcs⟩:=h1
  have hobk:=hobs _ hp
  rw[Nat.zero_add] at hobk
  have htck:=dp htc hd k o ho hpre
  have htcl:∀(y:Nat),L y=true→k∉tc.getD y []:=λy hy hm=>by
   have hyl:=hLn y hy
   have hoy:l[y]? =some l[y]:=geG hyl
   have:=dp htc hd y _ hoy (λe' he' hb=>hd y _ hoy hy e' he' hb) k hm
   rw[hk] at this;cases this
  -- the store is one of those that the plan names
  have hc:cnt L es∈cs:=by
   have h2:=List.all_eq_true.1 hcs (cnt L es) (List.mem_range.2 (Nat.lt_succ_of_le rk))
   simp only[Bool.or_eq_true] at h2
   rcases h2 with(h2|h2)|h2
   ·simpa using h2
   ·cases hy:es[cnt L es]? with
    |none=>simp[hy] at h2
    |some y=>
     simp only[hy] at h2
     have:=htck y (by simpa using h2)
     rw[me hy] at this;cases this
   ·obtain⟨y,hy,h3⟩:=List.any_eq_true.1 h2
    have hLy:=ma y hy
    simp only[Bool.or_eq_true] at h3
    rcases h3 with h3|h3
    ·rw[nbE h3,hk] at hLy;cases hLy
    ·exact absurd (by simpa using h3) (htcl y hLy)
  have hob:=oE hobk _ hc
  have hcnt:cnt L' es=bif es.contains k then cnt L es+1 else cnt L es:=by
   cases hmem:es.contains k with
   |false=>exact jU hL (by simpa using hmem)
   |true=>
    rw[hmem] at hself
    simp only[Bool.not_true,Bool.false_or] at hself
    have h4:=List.all_eq_true.1 hself _ hc
    have h5:es[cnt L es]? =some k:=by simpa using h4
    refine mc hL hk hk' (cw hne) h5 (λy hy=>?_)
    have hlt:cnt L es<es.length:=(giS.1 h5).1
    have h6:=List.all_eq_true.1 hch (cnt L es) (List.mem_range.2 hlt)
    simp only[h5,hy] at h6
    cases hLy:L y with
    |false=>rfl
    |true=>exact absurd (by simpa using h6) (htcl y hLy)
  have hreg:=ek (rs:=rs) (k:=0) (cw hnd)
  have regk:∀(j t:Nat)(x:AV),(j,t,x)∈aH l rs 0→∃o',l[j]? =some o'∧o'.dst=some t∧rs[j]? =some x:=λj t x hm=>by
   obtain⟨_,o',h1,h2,h3⟩:=gv hm
   exact⟨o',by simpa using h1,h2,by simpa using h3⟩
  -- what the operation needs is there
  have hek:∀t x,(bQ l rs base pk bk).get t=some x→(FL base L (aH l rs 0)).get t=some x:=λt x hx=>by
   rcases ig hx with⟨j,hj,hm⟩|⟨hm,hb⟩
   ·exact jk hreg.1 hm (htck j (by simpa using List.all_eq_true.1 hpk j hj))
   ·rw[k5]
    ·exact hb
    ·intro j r hjm
     obtain⟨o',h2,h3,_⟩:=regk j t r hjm
     have h4:=List.all_eq_true.1 (List.all_eq_true.1 hbk t hm) j (List.mem_range.2 (giS.1 h2).1)
     simp only[h2,h3,beq_self_eq_true,Bool.not_true,Bool.false_or,Bool.or_eq_true] at h4
     rcases h4 with h4|h4
     ·rw[nbE h4];exact hk
     ·cases hLj:L j with
      |false=>rfl
      |true=>exact absurd (by simpa using h4) (htcl j hLj)
  have hsub:Sub (bQ l rs base pk bk++FL base L (aH l rs 0)) (FL base L (aH l rs 0)):=λt x hx=>by
   rw[Env.get_append] at hx
   cases hg:(bQ l rs base pk bk).get t with
   |some y=>rw[hg] at hx;simp only[aa] at hx;subst hx;exact⟨y,hek t y hg,Le.refl y⟩
   |none=>rw[hg] at hx;exact⟨x,hx,Le.refl x⟩
  refine is hnf ho (hob (FL base L (aH l rs 0))) (hi.sub hsub) ?_
  rintro a' w' env' st' m' φ' ⟨rfl,pre,rfl,hp1,hp2⟩ hi'
  refine⟨m',φ',?_⟩
  rw[hcnt]
  refine hi'.sub (λt x hx=>?_)
  rw[Env.get_append,Env.get_append]
  cases hpt:pre.get t with
  |some y=>
   have hdt:=hp1 t y hpt
   cases hrk:rs[k]? with
   |none=>exact absurd (List.getElem?_eq_none_iff.1 hrk) oM
   |some r=>
    have h2:=hp2 t r hdt hrk
    rw[hpt] at h2
    simp only[aa] at h2
    subst h2
    have h3:(FL base L' (aH l rs 0)).get t=some y:=jk hreg.1 (by simpa using eo (k:=0) ho hdt hrk) hk'
    rw[h3] at hx
    simp only[aa] at hx
    subst hx
    exact⟨y,rfl,Le.refl y⟩
  |none=>
   have h3:(FL base L' (aH l rs 0)).get t=(FL base L (aH l rs 0)).get t:=kZ hL (λr hr=>by
    obtain⟨o',h2,h3,h4⟩:=regk k t r hr
    rw[ho] at h2
    simp only[aa] at h2
    subst h2
    have:=hp2 t r h3 h4
    rw[hpt] at this;cases this)
   rw[h3] at hx
   cases hg:(bQ l rs base pk bk).get t with
   |some y=>
    have:=hek t y hg
    rw[hx] at this
    simp only[aa] at this
    subst this
    exact⟨x,rfl,Le.refl x⟩
   |none=>exact⟨x,hx,Le.refl x⟩
def Lof(listed:Array Bool)(k:Nat):Bool:=listed.getD k false
theorem ud(hnf:av l=true){tc:List (List Nat)}{plan:List (List Nat×List Nat×List Nat)}{Q:Exit→Act→World→Prop}(hok:f' l tc es plan=true)(hrs:rs.length=l.length)(hobs:Obs P e l rs base sts es 0 l plan)
  (hQ:∀a w,At e l rs base sts es (λk=>Nat.blt k l.length) a w→Q .normal a w):
  ∀(f:Nat)(listed:Array Bool)(a:Act)(w:World),listed.size=l.length→ne l (Lof listed)→listed.toList.count false≤f→At e l rs base sts es (Lof listed) a w→wpAnyIn (EF e.rd) 0 P .any l.toArray Q f listed a w:=by
 have htc:oS l tc=true:=by simp only[f',Bool.and_eq_true] at hok;exact hok.1.1.1.1.1
 -- what is ready
 have rdy:∀(listed:Array Bool)(i:Nat),listed.size=l.length→i∈Region.ready .any l.toArray listed→∃o,l[i]? =some o∧Lof listed i=false∧listed[i]? =some false∧∀e∈o.after,Region.binds .any e=true→Lof listed e.on=true:=by
  intro listed i hsz hi
  obtain⟨h0,o,ho,hall⟩:=mem_ready.1 hi
  have hil:i<listed.size:=by
   rcases Nat.lt_or_ge i listed.size with h|h
   ·exact h
   ·simp[Array.getD,Nat.not_lt.2 h] at h0
  have h1:listed[i]? =some false:=by
   rw[Array.getElem?_eq_getElem hil]
   simp[Array.getD,hil] at h0
   rw[h0]
  exact⟨o,by simpa using ho,by simp[Lof,Array.getD_eq_getD_getElem?,h1],h1,λe he hb=>hall e he hb⟩
 -- where nothing is ready, all is listed
 have full:∀(listed:Array Bool),listed.size=l.length→Region.ready .any l.toArray listed=[]→Lof listed=λk=>Nat.blt k l.length:=by
  intro listed hsz hr
  have key:∀k,k<l.length→Lof listed k=true:=by
   intro k
   induction k using Nat.strongRecOn with
   |_ k ih=>
    intro hk
    cases hLk:Lof listed k with
    |true=>rfl
    |false=>
     exfalso
     have hok':l[k]? =some l[k]:=geG hk
     have:k∈Region.ready .any l.toArray listed:=by
      refine mem_ready.2 ⟨?_,l[k],by simp[hk],λe he hb=>?_⟩
      ·have hks:k<listed.size:=oM
       simp only[Lof,Array.getD,hks,dif_pos] at hLk⊢
       exact hLk
      ·have h1:=List.all_eq_true.1 htc k (List.mem_range.2 hk)
       simp only[hok',Bool.and_eq_true] at h1
       have h2:=List.all_eq_true.1 h1.1 e (Array.mem_toList_iff.2 he)
       simp only[hb,Bool.not_true,Bool.false_or] at h2
       have hlt:e.on<k:=by simpa[Nat.blt_eq] using h2
       exact ih e.on hlt oM
     rw[hr] at this;cases this
  funext k
  rcases Nat.lt_or_ge k l.length with h|h
  ·rw[key k h];simp[Nat.blt_eq,h]
  ·have:Lof listed k=false:=by simp[Lof,Array.getD,Nat.not_lt.2 (by omega:listed.size≤k)]
   rw[this]
   cases hb:Nat.blt k l.length with
   |false=>rfl
   |true=>
     have:k<l.length:=by simpa[Nat.blt_eq] using hb
     omega
 intro f
 induction f with
 |zero=>
  intro listed a w hsz hdn hcn hat
  have hr:Region.ready .any l.toArray listed=[]:=by
   cases hr:Region.ready .any l.toArray listed with
   |nil=>rfl
   |cons i r=>
    obtain⟨o,_,_,h1,_⟩:=rdy listed i hsz (by rw[hr];exact List.mem_cons_self)
    have:false∈listed.toList:=List.mem_of_getElem? (i:=i) (by simpa using h1)
    have:=List.count_pos_iff.2 this
    omega
  exact⟨hr,hQ a w (full listed hsz hr▸hat)⟩
 |succ f ih=>
  intro listed a w hsz hdn hcn hat
  refine⟨λhr=>hQ a w (full listed hsz hr▸hat),λi hi=>?_⟩
  obtain⟨o,ho,hLi,hli,hpre⟩:=rdy listed i hsz hi
  have hil:i<listed.size:=(Array.getElem?_eq_some_iff.1 hli).1
  have hother:∀j,j≠i→Lof (listed.setIfInBounds i true) j=Lof listed j:=λj hj=>by
   simp only[Lof,Array.getD_eq_getD_getElem?,Array.getElem?_setIfInBounds_ne (Ne.symm hj)]
  have hself:Lof (listed.setIfInBounds i true) i=true:=by simp[Lof,Array.getD_eq_getD_getElem?,hil]
  have hstep:=rt (Q':=Q) hnf (L':=Lof (listed.setIfInBounds i true)) hok hrs (λp hp=>oD hobs ho hp) ho hdn (λy hy=>by
   rcases Nat.lt_or_ge y l.length with h|h
   ·exact h
   ·simp[Lof,Array.getD,Nat.not_lt.2 (by omega:listed.size≤y)] at hy) hLi hpre hother hself hat
  refine wpOpIn_mono (λa' w' hat'=>ih _ a' w' (by simpa using hsz) ?_ ?_ hat') hstep
  ·intro k ok hk hLk e he hb
   by_cases hki:k=i
   ·subst hki
    rw[ho] at hk
    simp only[aa] at hk
    subst hk
    have:=hpre e he hb
    by_cases hei:e.on=k
    ·rw[hei];exact hself
    ·rw[hother _ hei];exact this
   ·rw[hother k hki] at hLk
    have:=hdn k ok hk hLk e he hb
    by_cases hei:e.on=i
    ·rw[hei];exact hself
    ·rw[hother _ hei];exact this
  ·have:=gD (l:=listed.toList) (i:=i) (by simpa using hli)
   rw[Array.toList_setIfInBounds]
   omega
theorem eH{k:Ko}{env:Env}{st:List AO}{id:Nat}(rs:List AV)(tc:List (List Nat))(es:List Nat)(sts:Nat→List AO)(plan:List (List Nat×List Nat×List Nat))(hm:P.follows .mixedOrders=true)
  (hok:f' l tc es plan=true)(hrs:Nat.beq rs.length l.length=true)(hes:es.all (λy=>Nat.blt y l.length)=true)(hst:sts 0=st)(hobs:Obs P e l rs env sts es 0 l plan)
  (h:WE P e .normal k (FL env (λk=>Nat.blt k l.length) (aH l rs 0)) (sts es.length))(hnf:av l=true:=by kernel_rfl):WC P e (.region id l.toArray true) k env st:=λm φ a w hi=>by
 have hQ:∀a' w',At e l rs env sts es (λk=>Nat.blt k l.length) a' w'→k.den P e .normal a' w':=λa' w' ⟨m',φ',hi'⟩=>by
  rw[t5 λy hy=>List.all_eq_true.1 hes y hy] at hi'
  exact h m' φ' a' w' hi'
 have hz:∀j,Lof (Array.replicate l.toArray.size false) j=false:=λj=>by simp[Lof,Array.getD]
 have hdn:ne l (Lof (Array.replicate l.toArray.size false)):=λk o _ hL=>by rw[hz] at hL;cases hL
 have hat:At e l rs env sts es (Lof (Array.replicate l.toArray.size false)) a { w with drawn:=w.drawn+1 }:=by
  have hc:cnt (Lof (Array.replicate l.toArray.size false)) es=0:=by
   cases es with
   |nil=>rfl
   |cons y es=>simp only[cnt,hz,cdF]
  have hf:∀reg:List (Nat×Nat×AV),FL env (Lof (Array.replicate l.toArray.size false)) reg=env:=by
   intro reg
   induction reg with
   |nil=>rfl
   |cons p reg ih=>obtain⟨j,d,r⟩:=p;simp only[FL,hz,cdF];exact ih
  refine⟨m,φ,?_⟩
  rw[hc,hf,hst]
  exact hi.below ((Below.refl _ _).drew) (hi.env.mono (Pre.refl m) (Fz.refl φ w)) hi.sz rfl
 exact wpIn_region_any hm (ud hnf (sts:=sts) (base:=env) hok (nbE hrs) hobs hQ _ _ a _ sM hdn sM hat)
theorem ga{ops:Array Oper}{env:Env}{st' stc:List AO}{o:Oper}{d:Nat}{r:AV}{k:Nat}(hd:o.dst=some d)(hr:rs[k]? =some r)(hst:st'=stc):
  WL P e ops [] ((d,r)::env) st' (λenv' st''=>st''=stc∧∃pre,env'=pre++env∧(∀t x,pre.get t=some x→o.dst=some t)∧∀d' r',o.dst=some d'→rs[k]? =some r'→pre.get d'=some r'):=
 WL.nil ⟨hst,[(d,r)],rfl,λt x hx=>by
  rw[an] at hx
  split at hx
  ·rename_i h;rw[h];exact hd
  ·simp[Env.get] at hx,λd' r' hd' hr'=>by
  rw[hd] at hd';rw[hr] at hr'
  simp only[aa] at hd' hr'
  subst hd';subst hr'
  simp[an]⟩
theorem rx{ops:Array Oper}{env:Env}{st' stc:List AO}{o:Oper}{d:Nat}{r r0:AV}{k:Nat}(hd:o.dst=some d)(hr:rs[k]? =some r)(hst:st'=stc):
  WL P e ops [] ((d,r)::(d,r0)::env) st' (λenv' st''=>st''=stc∧∃pre,env'=pre++env∧(∀t x,pre.get t=some x→o.dst=some t)∧∀d' r',o.dst=some d'→rs[k]? =some r'→pre.get d'=some r'):=
 WL.nil ⟨hst,[(d,r),(d,r0)],rfl,λt x hx=>by
  rw[an,an] at hx
  by_cases h:t=d
  ·rw[h];exact hd
  ·simp[h,Env.get] at hx,λd' r' hd' hr'=>by
  rw[hd] at hd';rw[hr] at hr'
  simp only[aa] at hd' hr'
  subst hd';subst hr'
  simp[an]⟩
theorem dw{ops:Array Oper}{env:Env}{st' stc:List AO}{o:Oper}{k:Nat}(hd:o.dst=none)(hst:st'=stc):
  WL P e ops [] env st' (λenv' st''=>st''=stc∧∃pre,env'=pre++env∧(∀t x,pre.get t=some x→o.dst=some t)∧∀d' r',o.dst=some d'→rs[k]? =some r'→pre.get d'=some r'):=
 WL.nil ⟨hst,[],rfl,λt x hx=>by simp[Env.get] at hx,λd' r' hd' _=>by rw[hd] at hd';cases hd'⟩
end
end Go.Sk
namespace Go.Sk
open Go.RowKit (Below)
section
variable{P:Program}{e:En}{ops:Array Oper}{l rest:List Oper}{env:Env}{st:List AO}{R:Env→List AO→Prop}{K:Ko}
theorem mq{m φ w}:∀{xs:List AV}{vs:List Value}{i:Nat}{y:AV}{v:Value},RAs m φ w xs vs→vs[i]? =some v→RA m φ w y v→RAs m φ w (xs.set i y) vs
 |[],vs,i,y,v,h,hi,hy=>by simp only[RAs] at h;subst h;simp at hi
 |p::xs,vs,i,y,v,h,hi,hy=>by
  simp only[RAs] at h
  obtain⟨c,cs,rfl,h1,h2⟩:=h
  cases i with
  |zero=>
   simp only[List.getElem?_cons_zero,aa] at hi
   subst hi
   exact au hy h2
  |succ i=>exact au h1 (mq h2 (by simpa using hi) hy)
end
end Go.Sk
namespace Go.Sk
open Go.RowKit (Below)
def kX(env:Env)(id ver:Nat):List Nat→Prop
 |[]=>True
 |t::ts=>env.get t=some (.os id ver)∧kX env id ver ts
def dV(x:AV):List (Nat×Nat)→List AO→List AO
 |[],st=>st
 |(i,off)::r,st=>dV x r (match st[i]? with|some (.row T cs)=>st.set i (.row T (cs.set off x))|_=>st)
def ik(st:List AO)(id ver:Nat)(x:AV):List (Nat×Nat)→Prop
 |[]=>True
 |(i,off)::r=>∃T cs,st[i]? =some (.row T cs)∧cs[off]? =some (.os id ver)∧ik (st.set i (.row T (cs.set off x))) id ver x r
theorem iL{m φ w}{id ver:Nat}{y:Value}{x:AV}(hm:m[id]? =some (.tok ver y))(hx:RA m φ w x y):∀(l:List (Nat×Nat))(st:List AO),SR m φ st w→ik st id ver x l→SR m φ (dV x l st) w
 |[],st,h,_=>h
 |(i,off)::r,st,h,hc=>by
  obtain⟨T,cs,h1,h2,h3⟩:=hc
  simp only[dV,h1]
  refine iL hm hx r _ ?_ h3
  refine h.alter (o:= .row T cs) h1 rfl ?_
  rintro c hc2 ⟨b,rfl,q2,vs,q3,q4⟩
  obtain⟨v',p1,p2⟩:=aW q4 h2
  simp only[RA] at p2
  obtain⟨v0,y0,k1,k2,k3⟩:=p2
  rw[hm] at k1
  simp only[aa,Cz.tok.injEq] at k1
  obtain⟨rfl,rfl⟩:=k1
  have:=k3 rfl
  subst this
  exact⟨b,rfl,q2,vs,q3,mq q4 p1 hx⟩
section
variable{P:Program}{e:En}{ops:Array Oper}{l rest:List Oper}{env:Env}{st:List AO}{R:Env→List AO→Prop}{K:Ko}
theorem Inv.freezeX{m φ a w}{id ver T k:Nat}{ds:List (List D)}(ts:List Nat)(cl:List (Nat×Nat))(hi:Inv e m φ env st a w)(hs:st[id]? =some (.os T k ver (ds.map λe=>e.map AV.d)))
  (ht:kX env id ver ts)(hc:ik (st.set id .dead) id ver (.d (.sl ds)) cl):
  ∃φ',Inv e m φ' (ts.map (λt=>(t, .d (.sl ds)))++env) (dV (.d (.sl ds)) cl (st.set id .dead)) a w:=by
 obtain⟨c,hcm⟩:∃c,m[id]? =some c:=by
  have:id<m.length:=by rw[hi.sr.len];exact(giS.1 hs).1
  exact⟨_,geG this⟩
 obtain⟨y,xs,rfl,_⟩:=hi.sr.obj id _ _ hs hcm
 obtain⟨φ',f1,f2,f3⟩:=jO hi.sr hs hcm
 have h3:=hi.go f1 f2
 refine⟨φ',iL hcm (by simpa[RA] using f3) cl _ h3.sr hc,h3.ev,?_,h3.sz,h3.df⟩
 clear hc
 refine⟨?_,h3.env.gl⟩
 induction ts with
 |nil=>exact h3.env.get
 |cons t ts ih=>
  intro s x hx
  simp only[List.map_cons,List.cons_append] at hx
  unfold Env.get at hx
  cases hb:Nat.beq s t with
  |true=>
   rw[hb] at hx
   simp only[cdT,aa] at hx
   subst hx
   have:s=t:=nbE hb
   subst this
   obtain⟨v,g1,g2⟩:=hi.env s _ ht.1
   simp only[RA] at g2
   obtain⟨v0,y0,k1,k2,k3⟩:=g2
   rw[hcm] at k1
   simp only[aa,Cz.tok.injEq] at k1
   obtain⟨rfl,rfl⟩:=k1
   have:=k3 rfl
   subst this
   exact⟨_,g1,by simpa[RA] using f3⟩
  |false=>rw[hb] at hx;exact ih ht.2 s x hx
theorem WE.freezeX{x:Exit}(ts:List Nat)(cl:List (Nat×Nat))(id:Nat){ver T k:Nat}(ds:List (List D)){es:List (List AV)}(hs:st[id]? =some (.os T k ver es))(hes:es=ds.map λe=>e.map AV.d)(ht:kX env id ver ts)(hc:ik (st.set id .dead) id ver (.d (.sl ds)) cl)
  (h:WE P e x K (ts.map (λt=>(t, .d (.sl ds)))++env) (dV (.d (.sl ds)) cl (st.set id .dead))):WE P e x K env st:=λm φ a w hi=>by
 subst hes
 obtain⟨φ',hi'⟩:=hi.freezeX ts cl hs ht hc
 exact h m φ' a w hi'
end
def tv(b:Nat)(n:Int):Bool:=decide (0≤n)&&decide ((b:Int)*n≤281474976710656)&&decide (n≤maxLen)
section
variable{P:Program}{env:Env}{st:List AO}{dst:Option Tmp}{ty:TypeId}{pos:String}{after:Array Edge}{guard:Option (Nat×Bool)}
theorem d6(z:Array Value):∀n:Nat,0<z.size→(madeCells z (n*z.size)).toList=(List.replicate n z.toList).flatten
 |0,_=>by simp[madeCells]
 |n+1,hz=>by
  apply List.ext_getElem?
  intro j
  have ih:=congrArg (λl=>l[j - z.size]?) (d6 z n hz)
  simp only[madeCells,Array.toList_map,Array.toList_range,List.getElem?_map] at ih⊢
  rw[List.replicate_succ,List.flatten_cons]
  by_cases hj:j<z.size
  ·rw[List.getElem?_append_left (by simpa using hj),List.getElem?_range (by rw[Nat.succ_mul];omega)]
   simp[hj,Nat.mod_eq_of_lt hj]
  ·rw[List.getElem?_append_right (by simpa using Nat.le_of_not_lt hj)]
   simp only[Array.length_toList]
   rw[←ih]
   by_cases hj2:j<(n+1)*z.size
   ·rw[List.getElem?_range hj2,List.getElem?_range (by rw[Nat.succ_mul] at hj2;omega)]
    simp only[Option.map_some]
    rw[Nat.mod_eq_sub_mod (Nat.le_of_not_lt hj)]
   ·rw[List.getElem?_eq_none (by simpa using Nat.le_of_not_lt hj2),List.getElem?_eq_none (by simp only[List.length_range];rw[Nat.succ_mul] at hj2;omega)]
theorem gW{T e k by_:Nat}{kl kc:IntKind}{n:Int}{x y:Operand}{zs:List Value}(hT:bW P T=some (e,k,by_))(hz:ao P e=some zs)(hzl:zs.length=k)(hk:0<k)
  (hx:opv env x=some (.d (.v (.int kl n))))(hy:opv env y=some (.d (.v (.int kc n))))(hok:tv by_ n=true):
  NewOs P env st ⟨dst, .makeSlice T x y,ty,pos,after,guard⟩ e k (List.replicate n.toNat (zs.map λz=> .d (.v z))):=λm φ a w hs he=>by
 obtain⟨i,ht,hi,rfl,rfl⟩:=ck hT
 obtain⟨z,hz1,hz2⟩:=bS hz hi
 simp only[tv,Bool.and_eq_true,decide_eq_true_eq] at hok
 obtain⟨⟨k0,k1⟩,k2⟩:=hok
 have hr:=run_make (P:=P) w T e i z ht hi hz1 kl kc n n k0 (Int.le_refl _) k1 (by simp only[maxLen] at k2;omega)
 have hzs:z.cells.size=i.size:=by rw[hz2];simpa using hzl
 have hfl:(madeCells z.cells (n.toNat*i.size)).toList=(List.replicate n.toNat zs).flatten:=by
  have:=d6 z.cells n.toNat oM
  rw[hzs] at this
  rw[this,hz2]
 have hF:=Fz.alloc hs (.cells (madeCells z.cells (n.toNat*i.size)) e)
 have hkk:∀b,b<w.heap.size→(w.alloc (.cells (madeCells z.cells (n.toNat*i.size)) e)).heap[b]? =w.heap[b]? :=λb hb=>aw hb
 have hnew:∀b,(Cz.tok 0 (.slice (some ⟨w.heap.size,0,none⟩) n.toNat n.toNat)).has b→w.heap.size≤b:=λb hb=>by simp only[Cz.has,Value.ownBlock,aa] at hb;omega
 refine⟨_,_,by simp only[execOp,ah he hx,ah he hy];rw[Sem.run_bind,hr];rfl,Ev.push hs hF hkk sM rfl rfl rfl hnew,SR.push hs hF hkk sM ?_ hnew,(Below.refl _ _).alloc (Nat.le_refl _) _,λb hb=>by simp only[Value.ownBlock,aa] at hb;omega⟩
 have hl2:(List.replicate n.toNat zs).flatten.length=n.toNat*i.size:=by rw[←hfl];simp[size_madeCells]
 have hras:∀j:Nat,RAs (m++ [Cz.tok 0 (.slice (some ⟨w.heap.size,0,none⟩) n.toNat n.toNat)]) φ (w.alloc (.cells (madeCells z.cells (n.toNat*i.size)) e)) (List.replicate j (zs.map λz=>AV.d (.v z))).flatten (List.replicate j zs).flatten:=by
  intro j
  induction j with
  |zero=>exact aR
  |succ j ih=>rw[List.replicate_succ,List.replicate_succ,List.flatten_cons,List.flatten_cons];exact ak (cm zs) ih
 refine⟨_,(List.replicate n.toNat zs).flatten,rfl,⟨by rw[hl2];simp, .inr ⟨w.heap.size,n.toNat,_,sM,Nat.zero_le _,heap_alloc_new w _,sM,oM,size_madeCells _ _,?_⟩⟩,hras _,λf hf=>?_,λb hb=>?_⟩
 ·rw[hfl,List.take_of_length_le (by rw[hl2];simp)]
 ·rw[(List.mem_replicate.1 hf).2];simpa using hzl
 ·simp only[Value.ownBlock,aa] at hb
  exact hs.lt b oM
theorem NewOs.cast{o:Oper}{T k:Nat}{es es':List (List AV)}(h:NewOs P env st o T k es)(he:es=es'):NewOs P env st o T k es':=he▸h
theorem Les.len:∀{xs ys:List AV},Les xs ys→xs.length=ys.length
 |[],[],_=>rfl
 |x::xs,y::ys,h=>by simp[Les.len h.2]
 |[],_::_,h=>h.elim
 |_::_,[],h=>h.elim
theorem iC{α:Type}{R:α→List D}{n:Nat}{z:α}{zs:List Value}(h:cE R z=zs.map λz=> .d (.v z)):List.replicate n (zs.map λz=>AV.d (.v z))=(List.replicate n z).map (cE R):=by
 rw[List.map_replicate,h]
end
end Go.Sk
namespace Go.Sk
open Go.RowKit (Below)
theorem qe{m φ st w}{id:Nat}{T k ver b len cap:Nat}{es es':List (List AV)}{vs:List Value}(hs:SR m φ st w)(hi:st[id]? =some (.os T k ver es))(hb:m[id]? =some (.tok ver (.slice (some ⟨b,0,none⟩) len cap)))
  (h:RAs m φ w es'.flatten vs)(hl:es'.length=es.length)(hk:∀e∈es',e.length=k)(cur:Array Value)(hcur:w.heap[b]? =some (.cells cur T (0,0)))(new:Array Value)(hsz:new.size=cur.size)(htk:new.toList.take (es.length*k)=vs):
  Ev m φ w m φ (w.setRow b new)∧SR m φ (st.set id (.os T k ver es')) (w.setRow b new):=by
 obtain⟨y,xs,e1,g1,g2,g3,g4⟩:=hs.obj id _ _ hi hb
 simp only[Cz.tok.injEq,true_and] at e1
 subst e1
 have h0:φ b=0:=g4 b rfl
 have hF:Fz φ w φ (w.setRow b new):=λb2 off c q1 q2=>⟨q1,by
  have hne:b2≠b:=λe=>by subst e;omega
  rw[bv (ba hne)];exact q2⟩
 have hsize:(w.setRow b new).heap.size=w.heap.size:=size_setRow w b _
 refine⟨⟨Pre.refl m,λ_ h=> .inl h,rfl,rfl,rfl,by rw[hsize];exact Nat.le_refl _,λb2 hb2 hn=>⟨ba (λe=>hn ⟨id,_,hb,by rw[e];rfl⟩),rfl⟩,hF⟩,⟨by simp[hs.len],λi o c q1 q2=>?_,λb2 hb2=>hs.lt b2 oM,λi j o o' c c' b2 q1 q2 l1 l2 k1 k2 e1 e2=>?_,hs.gl.mono hF,λb2 hb2=>by rw[hsize];exact hs.nb b2 hb2⟩⟩
 ·by_cases hii:i=id
  ·subst hii
   rw[List.getElem?_set_self (cD hi)] at q1
   rw[hb] at q2
   simp only[aa] at q1 q2
   subst q1;subst q2
   refine⟨_,vs,rfl,?_,RAs.mono (Pre.refl m) hF _ _ h,hk,g4⟩
   obtain⟨r1,r2⟩:=g1
   have hvl:vs.length=es.length*k:=by
    have:=aj h
    rw[this]
    clear this h htk
    have:∀l:List (List AV),(∀e∈l,e.length=k)→l.flatten.length=l.length*k:=by
     intro l
     induction l with
     |nil=>simp
     |cons x l ih=>intro hh;simp only[List.flatten_cons,List.length_append,List.length_cons,ih (λe he=>hh e (by simp[he])),hh x sM,Nat.succ_mul];omega
    rw[this es' hk,hl]
   rcases r2 with⟨hv,_⟩|⟨g,cap',cur',hv,p1,p2,p3,p4,p5,p6⟩
   ·cases hv
   ·simp only[Value.slice.injEq,aa,Addr.mk.injEq,and_true] at hv
    obtain⟨rfl,rfl,rfl⟩:=hv
    rw[hcur] at p2
    simp only[aa,Obj.cells.injEq,and_true] at p2
    subst p2
    rw[hl]
    exact⟨hvl, .inr ⟨b,cap,new,rfl,p1,setRow_heap w b _ _ T (0,0) hcur,p3,p4,by rw[hsz];exact p5,htk⟩⟩
  ·rw[List.getElem?_set_ne (Ne.symm hii)] at q1
   have h:=hs.obj i o c q1 q2
   cases hl:o.live with
   |true=>
    refine h.congr (Pre.refl m) hF (λb2 hb2=>⟨ba λe=>?_,rfl⟩)
    subst e
    exact hii (hs.inj i id o _ c _ b2 q1 hi hl rfl q2 hb hb2 rfl)
   |false=>cases o<;>first|trivial|exact h|(simp[AO.live] at hl;done)
 ·have back:∀(i:Nat)(o:AO),(st.set id (.os T k ver es'))[i]? =some o→o.live=true→∃o2,st[i]? =some o2∧o2.live=true:=by
   intro i o g l
   by_cases hii:i=id
   ·subst hii;exact⟨_,hi,rfl⟩
   ·rw[List.getElem?_set_ne (Ne.symm hii)] at g;exact⟨o,g,l⟩
  obtain⟨p,p1,p2⟩:=back i o q1 l1
  obtain⟨q,u1,u2⟩:=back j o' q2 l2
  exact hs.inj i j p q c c' b2 p1 u1 p2 u2 k1 k2 e1 e2
section
variable{P:Program}{env:Env}{st:List AO}{dst:Option Tmp}{ty:TypeId}{pos:String}{after:Array Edge}{guard:Option (Nat×Bool)}
theorem m7{T:TypeId}{x y:Operand}{id ver off n T' k:Nat}{es es':List (List AV)}{r0 r:AV}{rs:List AV}(hx:opv env x=some (.pe id ver off))(hs:st[id]? =some (.os T' k ver es))(hy:opv env y=some r0)(hle:Le r0 r)(hk:r.okc=true)(hc:r.cells=rs)(hk1:rs.all AV.ok1=true)
  (hn:aM P T=some n)(hl:rs.length=n)(hlen:off+n≤es.flatten.length)(hes:es'.flatten=es.flatten.take off++rs++es.flatten.drop (off+n))(hel:es'.length=es.length)(hek:∀e∈es',e.length=k):
  Does P env st ⟨dst, .store T x y,ty,pos,after,guard⟩ (.d (.v undef)) (st.set id (.os T' k ver es')):=λm φ a w hsr he=>by
 obtain⟨b,len,cap,xs,g1,g2,g3,g4,g5,g6⟩:=iN hsr he hx hs
 obtain⟨us,q1,q2⟩:=aD (hle _ _ _ _ (af he hy)) hk
 rw[hc] at q2
 have hul:=aj q2
 have hxl:=aj g4
 obtain⟨r1,r2⟩:=g3
 rcases r2 with⟨hv,_⟩|⟨g,cap',cur,hv,p1,p2,p3,p4,p5,p6⟩
 ·cases hv
 simp only[Value.slice.injEq,aa,Addr.mk.injEq,and_true] at hv
 obtain⟨rfl,rfl,rfl⟩:=hv
 have hcl:es.length*k≤cur.size:=by rw[p5];exact Nat.mul_le_mul_right _ p3
 have hfl:es.flatten.length=es.length*k:=oM
 have hst:=run_storeCells_at P b off T' us 0 cur w p2 oM (kV q2 hk1)
 simp only[Nat.add_zero,hul,hl] at hst
 have hsize:us.length=n:=oM
 have hnew:RAs m φ w es'.flatten (xs.take off++us++xs.drop (off+n)):=by rw[hes];exact ak (ak (aV off g4) q2) (aZ _ g4)
 have htk:((cur.toList.take off++us++cur.toList.drop (off+n)).toArray.toList).take (es.length*k)=xs.take off++us++xs.drop (off+n):=by
  rw[←p6]
  apply List.ext_getElem?
  intro j
  have hcz:cur.toList.length=cur.size:=sM
  simp only[List.getElem?_take,List.getElem?_append,List.length_append,List.length_take,List.getElem?_drop,hsize,hcz]
  rw[Nat.min_eq_left (show off≤cur.size by omega),Nat.min_eq_left (show es.length*k≤cur.size by omega),Nat.min_eq_left (show off≤es.length*k by omega)]
  by_cases h1:j<es.length*k
  ·rw[if_pos h1]
   by_cases h2:j<off+n
   ·rw[if_pos h2,if_pos h2]
    by_cases h3:j<off
    ·simp only[if_pos h3,if_pos h1]
    ·simp only[if_neg h3]
   ·rw[if_neg h2,if_neg h2]
    have:off+n+(j - (off+n))=j:=oM
    rw[this,if_pos h1]
  ·rw[if_neg h1,if_neg (show¬j<off+n by omega)]
   have:off+n+(j - (off+n))=j:=oM
   rw[this,if_neg h1]
 obtain⟨k1,k2⟩:=qe hsr hs g1 hnew hel hek cur p2 (cur.toList.take off++us++cur.toList.drop (off+n)).toArray (by simp[hsize];omega) htk
 refine⟨undef,_,m,φ, .inr ⟨?_,rfl⟩,k1,k2,RAv⟩
 simp[execOp,Instr.storeAt,Instr.sureAddr,g2,storeVar,q1,ae hn,hsize,hst]
theorem n4{α:Type}{R:α→List D}{k:Nat}(hR:∀x,(R x).length=k):∀{L:List α}{i:Nat}{x:α},L[i]? =some x→∃l1 l2,(L.map (cE R)).flatten=l1++cE R x++l2∧l1.length=i*k∧∀z,((L.set i z).map (cE R)).flatten=l1++cE R z++l2
 |[],i,x,h=>by simp at h
 |y::L,0,x,h=>by
  simp only[List.getElem?_cons_zero,aa] at h
  subst h
  exact⟨[],(L.map (cE R)).flatten,sM,sM,λz=>sM⟩
 |y::L,i+1,x,h=>by
  simp only[List.getElem?_cons_succ] at h
  obtain⟨l1,l2,h1,h2,h3⟩:=n4 hR h
  refine⟨cE R y++l1,l2,by simp[h1],?_,λz=>?_⟩
  ·rw[List.length_append,h2,cE,List.length_map,hR,Nat.succ_mul];omega
  ·simp only[List.set_cons_succ,List.map_cons,List.flatten_cons,h3 z,List.append_assoc]
theorem y_pe{T n:Nat}{bb:Bool}{x ix:Operand}{id ver T' k:Nat}{α:Type}{R:α→List D}{L:List α}{kk:IntKind}{i:Int}{z:α}(hT:ai P T=some (n,bb))(hx:opv env x=some (.os id ver))(hs:st[id]? =some (.os T' k ver (L.map (cE R))))(hi:opv env ix=some (.d (.v (.int kk i))))(h:idx L i=some z):
  Yields P env st ⟨dst, .indexAddr T x ix,ty,pos,after,guard⟩ (.pe id ver (i.toNat*n)):=
 aC hT hx hs hi (az h) (by rw[List.length_map];exact mW h)
theorem ir{S i fo n:Nat}{bb:Bool}{x:Operand}{id ver off T k:Nat}{es:List (List AV)}(hf:bH P S i=some (fo,n+1,bb))(hx:opv env x=some (.pe id ver off))(hs:st[id]? =some (.os T k ver es)):Yields P env st ⟨dst, .fieldAddr S x i,ty,pos,after,guard⟩ (.pe id ver (off+fo)):=λm φ a w hsr he=>by
 obtain⟨b,len,cap,xs,g1,g2,_⟩:=iN hsr he hx hs
 exact⟨_,by simp only[RA];exact⟨_,_,g1,Nat.le_refl _,λ_=>⟨b,len,cap,rfl,rfl⟩⟩,λw' _=>by simp[execOp,g2,dX hf]⟩
theorem gX{T:TypeId}{x y:Operand}{id ver off fo n T' k:Nat}{α:Type}{R:α→List D}{L:List α}{i:Int}{z:α}(z':α){r0 r:AV}{rs:List AV}(hx:opv env x=some (.pe id ver off))(hoff:off=i.toNat*k+fo)(hs:st[id]? =some (.os T' k ver (L.map (cE R))))(hy:opv env y=some r0)(hle:Le r0 r)(hk:r.okc=true)(hc:r.cells=rs)(hk1:rs.all AV.ok1=true)
  (hn:aM P T=some n)(hl:rs.length=n)(hR:∀x,(R x).length=k)(hi:idx L i=some z)(hrl:Nat.ble (fo+n) k=true)(hz':cE R z'=(cE R z).take fo++rs++(cE R z).drop (fo+n)):
  Does P env st ⟨dst, .store T x y,ty,pos,after,guard⟩ (.d (.v undef)) (st.set id (.os T' k ver ((L.set i.toNat z').map (cE R)))):=by
 subst hoff
 obtain⟨l1,l2,h1,h2,h3⟩:=n4 hR (fP hi)
 have hle2:=nbT hrl
 have hz:(cE R z).length=k:=by rw[cE,List.length_map,hR]
 refine m7 hx hs hy hle hk hc hk1 hn hl (by rw[h1];simp only[List.length_append];omega) ?_ sM (λe he=>by obtain⟨x,_,rfl⟩:=List.mem_map.1 he;rw[cE,List.length_map,hR])
 have e1:(l1++cE R z++l2).take (i.toNat*k+fo)=l1++(cE R z).take fo:=by
  rw[List.append_assoc,List.take_append,List.take_of_length_le oM,h2,show i.toNat*k+fo - i.toNat*k=fo from by omega,List.take_append_of_le_length oM]
 have e2:(l1++cE R z++l2).drop (i.toNat*k+fo+n)=(cE R z).drop (fo+n)++l2:=by
  rw[List.append_assoc,List.drop_append,List.drop_eq_nil_of_le oM,h2,show i.toNat*k+fo+n - i.toNat*k=fo+n from by omega,List.nil_append,List.drop_append_of_le_length oM]
 rw[h1,h3,hz',e1,e2]
 simp[List.append_assoc]
end
end Go.Sk
namespace Go.Sk
open Go.RowKit (Below)
inductive LK where
 |int(k:IntKind)
 |bool
 |str
def LK.fits:LK→Value→Bool
 | .int k, .int k' _=>decide (k=k')
 | .bool, .bool _=>true
 | .str, .string _=>true
 |_,_=>false
def aS:List LK→List Value→Bool
 |[],[]=>true
 |k::ks,v::vs=>k.fits v&&aS ks vs
 |_,_=>false
def iZ:Value→Value→Bool
 | .int _ a, .int _ b=>decide (a=b)
 | .bool a, .bool b=>a==b
 | .string a, .string b=>a.toList==b.toList
 |_,_=>false
def eqL:List Value→List Value→Bool
 |[],[]=>true
 |x::xs,y::ys=>iZ x y&&eqL xs ys
 |_,_=>false
mutual
def fN(P:Program):Nat→TypeId→Option (List LK)
 |0,_=>none
 |d+1,T=>match P.underlying T with
  |some (.int k)=>some [.int k]
  |some .bool=>some [.bool]
  |some .string=>some [.str]
  |some (.struct fs)=>if P.stoodInHeld T then none else leafF P d fs.toList 0
  |some (.array n e)=>match fN P d e,aM P e with
   |some ks,some m=>if ks.length=m∧(aq P e=some true∨(aq P e=some false∧m=1)) then some (List.replicate n ks).flatten else none
   |_,_=>none
  |_=>none
def leafF(P:Program):Nat→List Field→Nat→Option (List LK)
 |_,[],_=>some []
 |0,_::_,_=>none
 |d+1,f::fs,off=>if f.name≠ "_"∧f.offset=off then
   match fN P d f.type,aM P f.type with
   |some ks,some n=>if ks.length=n∧(aq P f.type=some true∨(aq P f.type=some false∧n=1)) then(leafF P d fs (off+n)).map (ks++·) else none
   |_,_=>none
  else none
end
theorem bc:∀{ks:List LK}{vs:List Value},aS ks vs=true→vs.length=ks.length
 |[],[],_=>rfl
 |k::ks,v::vs,h=>by simp only[aS,Bool.and_eq_true] at h;simp[bc h.2]
 |[],_::_,h=>by simp[aS] at h
 |_::_,[],h=>by simp[aS] at h
theorem cP:∀{ks ls:List LK}{vs:List Value},aS (ks++ls) vs=true→aS ks (vs.take ks.length)=true∧aS ls (vs.drop ks.length)=true
 |[],ls,vs,h=>by simpa[aS] using h
 |k::ks,ls,[],h=>by simp[aS] at h
 |k::ks,ls,v::vs,h=>by
  simp only[List.cons_append,aS,Bool.and_eq_true] at h
  obtain⟨h1,h2⟩:=cP h.2
  simp[aS,h.1,h1,h2]
theorem fc:∀{xs ys us vs:List Value},xs.length=ys.length→eqL (xs++us) (ys++vs)=(eqL xs ys&&eqL us vs)
 |[],[],us,vs,_=>by simp[eqL]
 |x::xs,y::ys,us,vs,h=>by simp only[List.cons_append,eqL,fc (xs:=xs) (ys:=ys) (by simpa using h),Bool.and_assoc]
 |[],_::_,_,_,h=>by simp at h
 |_::_,[],_,_,h=>by simp at h
def dK:TypeDesc→Bool| .struct _=>true| .array _ _=>true|_=>false
theorem je{P:Program}{T:TypeId}{u:TypeDesc}(hu:P.underlying T=some u):aq P T=some (dK u):=by
 unfold aq;rw[hu];cases u<;>rfl
theorem cy{P:Program}{T:TypeId}{b:Bool}(h:aq P T=some b)(w:World):(isAgg T).run P w= .ok b w:=by
 unfold aq at h
 cases hu:P.underlying T with
 |none=>simp[hu] at h
 |some u=>
  simp only[hu,Option.map_some,aa] at h
  subst h
  simp only[isAgg,Sem.run_bind,run_underlying hu,Result.andThen_ok]
  cases u<;>simp
theorem dW{P:Program}{T:TypeId}{n:Nat}(h:aM P T=some n)(w:World):(sizeOf T).run P w= .ok n w:=by
 unfold aM at h
 cases hi:P.info? T with
 |none=>simp[hi] at h
 |some i=>
  simp only[hi,Option.map_some,aa] at h
  simp[sizeOf,typeInfo,hi,h]
def blk(n:Nat)(l:List Value)(i:Nat):List Value:=(l.drop (i*n)).take n
theorem gz{ks:List LK}:∀{m:Nat}{xs:List Value},aS (List.replicate m ks).flatten xs=true→∀i,i<m→aS ks (blk ks.length xs i)=true
 |0,_,_,i,hi=>oM
 |m+1,xs,h,i,hi=>by
  rw[List.replicate_succ,List.flatten_cons] at h
  obtain⟨h1,h2⟩:=cP h
  cases i with
  |zero=>simpa[blk] using h1
  |succ i=>
   have:=gz h2 i oM
   unfold blk at this⊢
   rw[List.drop_drop] at this
   rw[Nat.succ_mul,Nat.add_comm];exact this
theorem oy:∀(m n:Nat)(xs ys:List Value),xs.length=m*n→ys.length=m*n→((List.range m).all λi=>eqL (blk n xs i) (blk n ys i))=eqL xs ys
 |0,n,xs,ys,h1,h2=>by
  rw[Nat.zero_mul] at h1 h2
  rw[List.eq_nil_of_length_eq_zero h1,List.eq_nil_of_length_eq_zero h2];rfl
 |m+1,n,xs,ys,h1,h2=>by
  rw[Nat.succ_mul] at h1 h2
  have ih:=oy m n (xs.drop n) (ys.drop n) (by rw[List.length_drop];omega) (by rw[List.length_drop];omega)
  have e:∀(l:List Value)(i:Nat),blk n l (i+1)=blk n (l.drop n) i:=λl i=>by
   unfold blk;rw[List.drop_drop,Nat.succ_mul,Nat.add_comm]
  rw[List.range_succ_eq_map,List.all_cons,List.all_map]
  simp only[Function.comp_def,e,Nat.succ_eq_add_one,ih]
  have e0:∀l:List Value,blk n l 0=l.take n:=λl=>by simp[blk]
  rw[e0,e0]
  conv=>rhs;rw[←List.take_append_drop n xs,←List.take_append_drop n ys]
  rw[fc (by rw[List.length_take,List.length_take];omega)]
theorem hO{P:Program}(w:World)(n:Nat)(t e:TypeId)(m sz:Nat)(ks:List LK)(ht:P.underlying t=some (.array m e))(hsz:aM P e=some sz)(hlen:ks.length=sz)(hag:aq P e=some true∨(aq P e=some false∧sz=1))
  (ih:∀xs ys,aS ks xs=true→aS ks ys=true→(aq P e=some true→(Op.equalIn n e (.agg ⟨xs⟩) (.agg ⟨ys⟩)).run P w= .ok (eqL xs ys) w)∧(aq P e=some false→∀x y,xs=[x]→ys=[y]→(Op.equalIn n e x y).run P w= .ok (eqL xs ys) w))
  (xs ys:List Value)(h1:aS (List.replicate m ks).flatten xs=true)(h2:aS (List.replicate m ks).flatten ys=true):
  (Op.equalIn (n+1) t (.agg ⟨xs⟩) (.agg ⟨ys⟩)).run P w= .ok (eqL xs ys) w:=by
 have hfl:(List.replicate m ks).flatten.length=m*sz:=by
  rw[List.length_flatten,List.map_replicate,List.sum_replicate_nat,hlen]
 have lx:xs.length=m*sz:=by rw[←hfl];exact bc h1
 have ly:ys.length=m*sz:=by rw[←hfl];exact bc h2
 rw[←oy m sz xs ys lx ly,List.range_eq_range',Op.equalIn]
 simp only[Sem.run_bind,run_underlying ht,Result.andThen_ok,dW hsz,Std.Legacy.Range.forIn_eq_forIn_range',Std.Legacy.Range.size,Nat.sub_zero,Nat.add_sub_cancel,Nat.div_one]
 have hl:∀i∈List.range' 0 m 1,i<m:=λi hi=>by simpa using (List.mem_range'_1.1 hi).2
 generalize List.range' 0 m 1=l at hl⊢
 induction l with
 |nil=>simp
 |cons i l ih2=>
  have hi:i<m:=hl i sM
  have hbnd:i*sz+sz≤m*sz:=by
   calc i*sz+sz=(i+1)*sz:=by rw[Nat.succ_mul]
    _≤m*sz:=Nat.mul_le_mul_right _ hi
  have f1:=gz h1 i hi
  have f2:=gz h2 i hi
  rw[hlen] at f1 f2
  obtain⟨i1,i2⟩:=ih _ _ f1 f2
  have key:∀zs:List Value,zs.length=m*sz→(part e ⟨zs⟩ (i*sz)).run P w= .ok (if aq P e=some true then .agg ⟨blk sz zs i⟩ else((zs.drop (i*sz))[0]?).getD undef) w:=by
   intro zs hz
   rcases hag with hag|⟨hag,hm1⟩
   ·rw[if_pos hag]
    simp only[part,Sem.run_bind,cy hag,Result.andThen_ok,if_true,dW hsz,Sem.run_pure]
    congr 2
    apply Array.toList_inj.mp
    simp[List.extract_eq_take_drop,blk]
   ·rw[if_neg (by rw[hag];simp)]
    simp only[part,Sem.run_bind,cy hag,Result.andThen_ok,Bool.false_eq_true,if_false]
    have:i*sz<zs.length:=oM
    simp[this]
  have pe:(Op.equalIn n e (if aq P e=some true then .agg ⟨blk sz xs i⟩ else((xs.drop (i*sz))[0]?).getD undef) (if aq P e=some true then .agg ⟨blk sz ys i⟩ else((ys.drop (i*sz))[0]?).getD undef)).run P w= .ok (eqL (blk sz xs i) (blk sz ys i)) w:=by
   rcases hag with hag|⟨hag,hm1⟩
   ·rw[if_pos hag,if_pos hag];exact i1 hag
   ·rw[if_neg (by rw[hag];simp),if_neg (by rw[hag];simp)]
    have ex:∀zs:List Value,zs.length=m*sz→blk sz zs i=[((zs.drop (i*sz))[0]?).getD undef]:=by
     intro zs hz
     have:i*sz<zs.length:=oM
     unfold blk
     subst hm1
     rw[List.drop_eq_getElem_cons this]
     rfl
    exact i2 hag _ _ (ex xs lx) (ex ys ly)
  simp only[List.forIn_cons,Sem.run_bind,key xs lx,key ys ly,pe,Result.andThen_ok,List.all_cons]
  cases hb:eqL (blk sz xs i) (blk sz ys i)
  ·simp
  ·simp only[Bool.not_true,Bool.false_eq_true,if_false,Sem.run_pure,Result.andThen_ok,Bool.true_and]
   exact ih2 λj hj=>hl j (by simp[hj])
theorem bZ{P:Program}(w:World):∀(d:Nat),
  (∀(T:TypeId)(ks:List LK)(n:Nat)(xs ys:List Value),fN P d T=some ks→d≤n→aS ks xs=true→aS ks ys=true→
   (aq P T=some true→(Op.equalIn n T (.agg ⟨xs⟩) (.agg ⟨ys⟩)).run P w= .ok (eqL xs ys) w)∧
   (aq P T=some false→∀x y,xs=[x]→ys=[y]→(Op.equalIn n T x y).run P w= .ok (eqL xs ys) w))∧
  (∀(fs:List Field)(off:Nat)(ks:List LK)(n:Nat)(xs ys:List Value),leafF P d fs off=some ks→d≤n→aS ks (xs.drop off)=true→aS ks (ys.drop off)=true→xs.length=ys.length→
   (Op.eqFields n ⟨xs⟩ ⟨ys⟩ fs).run P w= .ok (eqL (xs.drop off) (ys.drop off)) w)
 |0=>by
  constructor
  ·intro T ks n xs ys h;simp[fN] at h
  ·intro fs off ks n xs ys h hn h1 h2 hl
   cases fs with
   |nil=>
    simp only[leafF,aa] at h
    subst h
    have a1:=bc h1
    have a2:=bc h2
    rw[List.eq_nil_of_length_eq_zero a1,List.eq_nil_of_length_eq_zero a2]
    simp[Op.eqFields,eqL]
   |cons f fs=>simp[leafF] at h
 |d+1=>by
  obtain⟨ihK,ihF⟩:=bZ w d
  constructor
  ·intro T ks n xs ys h hn h1 h2
   obtain⟨n,rfl⟩:∃n',n=n'+1:=⟨n - 1,oM⟩
   simp only[fN] at h
   cases hu:P.underlying T with
   |none=>simp[hu] at h
   |some u=>
    rw[hu] at h
    have hag:=je hu
    cases u with
    |int k=>
     simp only[aa] at h
     subst h
     refine⟨λh=>by simp[hag,dK] at h,λ_ x y hx hy=>?_⟩
     subst hx;subst hy
     simp only[aS,Bool.and_true] at h1 h2
     cases x<;>simp only[LK.fits,Bool.false_eq_true] at h1
     cases y<;>simp only[LK.fits,Bool.false_eq_true] at h2
     simp only[decide_eq_true_eq] at h1 h2
     subst h1;subst h2
     rw[run_equalIn_int w n T _ k _ _ hu]
     simp[eqL,iZ,Int.beq_dec]
    |bool=>
     simp only[aa] at h
     subst h
     refine⟨λh=>by simp[hag,dK] at h,λ_ x y hx hy=>?_⟩
     subst hx;subst hy
     simp only[aS,Bool.and_true] at h1 h2
     cases x<;>simp only[LK.fits,Bool.false_eq_true] at h1
     cases y<;>simp only[LK.fits,Bool.false_eq_true] at h2
     rw[run_equalIn_bool' w n T _ _ hu]
     simp[eqL,iZ]
    |string=>
     simp only[aa] at h
     subst h
     refine⟨λh=>by simp[hag,dK] at h,λ_ x y hx hy=>?_⟩
     subst hx;subst hy
     simp only[aS,Bool.and_true] at h1 h2
     cases x<;>simp only[LK.fits,Bool.false_eq_true] at h1
     cases y<;>simp only[LK.fits,Bool.false_eq_true] at h2
     rw[run_equalIn_string w n T _ _ hu]
     simp[eqL,iZ]
    |struct fs=>
     simp only at h
     split at h
     ·cases h
     ·rename_i hst
      refine⟨λ_=>?_,λh=>by simp[hag,dK] at h⟩
      have hf:P.fieldsOf T=fs:=by simp[Program.fieldsOf,hu]
      rw[run_equalIn_struct w n T ⟨xs⟩ ⟨ys⟩ (by rw[hf,hu]) (by simpa using hst),hf]
      have:=ihF fs.toList 0 ks n xs ys h oM (by simpa using h1) (by simpa using h2) (by rw[bc h1,bc h2])
      simpa using this
    |array m e=>
     simp only at h
     split at h
     ·rename_i ks1 sz hk hsz
      split at h
      ·rename_i hc
       simp only[aa] at h
       subst h
       refine⟨λ_=>?_,λh=>by simp[hag,dK] at h⟩
       exact hO w n T e m sz ks1 hu hsz hc.1 hc.2 (λxs ys f1 f2=>ihK e ks1 n xs ys hk oM f1 f2) xs ys h1 h2
      ·cases h
     ·cases h
    |_=>simp at h
  ·intro fs off ks n xs ys h hn h1 h2 hl
   cases fs with
   |nil=>
    simp only[leafF,aa] at h
    subst h
    have a1:=bc h1
    have a2:=bc h2
    rw[List.eq_nil_of_length_eq_zero a1,List.eq_nil_of_length_eq_zero a2]
    simp[Op.eqFields,eqL]
   |cons f fs=>
    simp only[leafF] at h
    split at h
    ·rename_i hc
     obtain⟨hname,hoff⟩:=hc
     split at h
     ·rename_i ks1 m hk1 hm
      split at h
      ·rename_i hc2
       obtain⟨hlen,hag⟩:=hc2
       obtain⟨ks2,hks2,rfl⟩:=Option.map_eq_some_iff.1 h
       obtain⟨f1,f2⟩:=cP h1
       obtain⟨g1,g2⟩:=cP h2
       have lx:=bc h1
       have ly:=bc h2
       simp only[List.length_append,List.length_drop] at lx ly
       have key:∀zs:List Value,zs.length=xs.length→(part f.type ⟨zs⟩ f.offset).run P w= .ok (if aq P f.type=some true then .agg ⟨(zs.drop off).take m⟩ else((zs.drop off)[0]?).getD undef) w:=by
        intro zs hz
        rcases hag with hag|⟨hag,hm1⟩
        ·rw[if_pos hag]
         simp only[part,Sem.run_bind,cy hag,Result.andThen_ok,if_true,dW hm,Sem.run_pure]
         rw[hoff]
         congr 2
         apply Array.toList_inj.mp
         simp[List.extract_eq_take_drop]
        ·rw[if_neg (by rw[hag];simp)]
         simp only[part,Sem.run_bind,cy hag,Result.andThen_ok,Bool.false_eq_true,if_false]
         have:off<zs.length:=oM
         simp[hoff,this]
       have hmain:(Op.equalIn n f.type (if aq P f.type=some true then .agg ⟨(xs.drop off).take m⟩ else((xs.drop off)[0]?).getD undef) (if aq P f.type=some true then .agg ⟨(ys.drop off).take m⟩ else((ys.drop off)[0]?).getD undef)).run P w= .ok (eqL ((xs.drop off).take m) ((ys.drop off).take m)) w:=by
        obtain⟨i1,i2⟩:=ihK f.type ks1 n _ _ hk1 oM f1 g1
        rw[hlen] at i1 i2
        rcases hag with hag|⟨hag,hm1⟩
        ·rw[if_pos hag,if_pos hag];exact i1 hag
        ·rw[if_neg (by rw[hag];simp),if_neg (by rw[hag];simp)]
         have ex:∀zs:List Value,zs.length=xs.length→(zs.drop off).take m=[((zs.drop off)[0]?).getD undef]:=by
          intro zs hz
          have:off<zs.length:=oM
          subst hm1
          rw[List.drop_eq_getElem_cons this]
          rfl
         exact i2 hag _ _ (ex xs rfl) (ex ys hl.symm)
       have hrest:=ihF fs (off+m) ks2 n xs ys hks2 oM (by rw[List.drop_drop,hlen] at f2;exact f2) (by rw[List.drop_drop,hlen] at g2;exact g2) hl
       have hsplit:eqL (xs.drop off) (ys.drop off)=(eqL ((xs.drop off).take m) ((ys.drop off).take m)&&eqL (xs.drop (off+m)) (ys.drop (off+m))):=by
        conv=>lhs;rw[←List.take_append_drop m (xs.drop off),←List.take_append_drop m (ys.drop off)]
        rw[fc (by simp only[List.length_take,List.length_drop];omega),List.drop_drop,List.drop_drop]
       simp only[Op.eqFields,if_pos hname,Sem.run_bind,key xs rfl,key ys hl.symm,Result.andThen_ok,hmain]
       rw[hsplit]
       cases hb:eqL ((xs.drop off).take m) ((ys.drop off).take m) with
       |false=>simp
       |true=>simpa using hrest
      ·cases h
     ·cases h
    ·cases h
section
variable{P:Program}{env:Env}{st:List AO}{dst:Option Tmp}{ty:TypeId}{pos:String}{after:Array Edge}{guard:Option (Nat×Bool)}
theorem cY{φ w}:∀{vs cs:List Value},RFs φ w (vs.map D.v) cs→cs=vs
 |[],cs,h=>by simpa[RFs] using h
 |v::vs,cs,h=>by
  simp only[List.map_cons,RFs,RD] at h
  obtain⟨c,cs',rfl,rfl,h⟩:=h
  rw[cY h]
def eZ(P:Program)(T:TypeId):Option (List LK):=bif P.eqGuardType P.depth T then none else match aq P T with|some true=>fN P 100 T|_=>none
theorem pM{x y:Operand}{T T':TypeId}{xa ya:AV}{xs ys:List Value}{ks:List LK}{b:Bool}(hT:eZ P T=some ks)(hx:opv env x=some xa)(hlx:Le xa (.d (.ag (xs.map D.v))))(hy:opv env y=some ya)(hly:Le ya (.d (.ag (ys.map D.v))))(h1:aS ks xs=true)(h2:aS ks ys=true)(hb:eqL xs ys=b):
  Yields P env st ⟨dst, .binOp .eql T x y T',ty,pos,after,guard⟩ (.d (.v (.bool b))):=λm φ a w _ he=>by
 unfold eZ at hT
 cases hg:P.eqGuardType P.depth T with
 |true=>rw[hg] at hT;cases hT
 |false=>
  rw[hg] at hT
  simp only[cdF] at hT
  split at hT
  ·rename_i hag
   have ex:=hlx _ _ _ _ (af he hx)
   have ey:=hly _ _ _ _ (af he hy)
   simp only[RA,RD] at ex ey
   obtain⟨cs,e1,e2⟩:=ex
   obtain⟨ds,e3,e4⟩:=ey
   have e5:=cY e2
   rw[e5] at e1
   have e6:=cY e4
   rw[e6] at e3
   refine⟨_,RAv,λw' _=>?_⟩
   have:=((bZ (P:=P) w' 100).1 T ks 10000 xs ys hT dC h1 h2).1 hag
   simp only[execOp,e1,e3,Sem.run_bind,run_eqGuard_agg w' .eql T x y ⟨xs⟩ ⟨ys⟩ hg,Result.andThen_ok,run_eql_struct w' T ⟨xs⟩ ⟨ys⟩,this,hb]
   rfl
  ·cases hT
theorem uG{x y:Operand}{T T':TypeId}{xa ya:AV}{xs ys:List Value}{ks:List LK}{b:Bool}(hT:eZ P T=some ks)(hx:opv env x=some xa)(hlx:Le xa (.d (.ag (xs.map D.v))))(hy:opv env y=some ya)(hly:Le ya (.d (.ag (ys.map D.v))))(h1:aS ks xs=true)(h2:aS ks ys=true)(hb:eqL xs ys=b):
  Yields P env st ⟨dst, .binOp .neq T x y T',ty,pos,after,guard⟩ (.d (.v (.bool (!b)))):=λm φ a w _ he=>by
 unfold eZ at hT
 cases hg:P.eqGuardType P.depth T with
 |true=>rw[hg] at hT;cases hT
 |false=>
  rw[hg] at hT
  simp only[cdF] at hT
  split at hT
  ·rename_i hag
   have ex:=hlx _ _ _ _ (af he hx)
   have ey:=hly _ _ _ _ (af he hy)
   simp only[RA,RD] at ex ey
   obtain⟨cs,e1,e2⟩:=ex
   obtain⟨ds,e3,e4⟩:=ey
   have e5:=cY e2
   rw[e5] at e1
   have e6:=cY e4
   rw[e6] at e3
   refine⟨_,RAv,λw' _=>?_⟩
   have:=((bZ (P:=P) w' 100).1 T ks 10000 xs ys hT dC h1 h2).1 hag
   simp only[execOp,e1,e3,Sem.run_bind,run_eqGuard_agg w' .neq T x y ⟨xs⟩ ⟨ys⟩ hg,Result.andThen_ok,run_neq_struct w' T ⟨xs⟩ ⟨ys⟩,this,hb]
   rfl
  ·cases hT
end
end Go.Sk
namespace Go.Sk
open Go.RowKit (Below)
section
variable{P:Program}{e:En}{ops:Array Oper}{l rest:List Oper}{env:Env}{st:List AO}{R:Env→List AO→Prop}{K:Ko}
theorem oz{o:Oper}{d:Nat}{f:FuncId}{c:Call}{x:Operand}{first caps asz as0:List AV}{st0 st0':List AO}{new new':Nat→List AO}{y:D}(js:List Nat)(hop:o.op= .call c)(hx:c.callee= .value x)
  (hf:opv env x=some (.fn (.func f) first caps))(has:aX env c.args.toList=some asz)(hc:Ctr P f as0 st0 (pr st0.length y new))(hl:Les (first++asz++caps) (AV.rens js as0))
  (hla:AV.lts js.length as0=true)(hj:js.Nodup)(hren0:st0.map (AO.ren js)=st0')(hwin:iT js st st0')(hlt:da js.length st0=true)(hlive:eD st0=true)(hnew:∀i,da js.length (new i)=true)
  (hren:∀i,(new i).map (AO.ren js)=new' i)
  (hw:Wt ops env o true)(ho:o.dst=some d)(hd:Nat.ble (d+1) e.n=true)(h:∀i,WL P e ops rest ((d, .d y)::env) (bI js (new' i) st) R):WL P e ops (o::rest) env st R:=
 ue js hop hx hf has hc hl hla hj (by rw[hren0];exact hwin) hlt hlive hnew hw ho hd (λi=>by rw[hren i];exact h i)
end
end Go.Sk
namespace Go.Sk
open Go.RowKit (Below)
section
variable{P:Program}{e:En}{ops:Array Oper}{l rest:List Oper}{env:Env}{st:List AO}{R:Env→List AO→Prop}{K:Ko}
variable{dst:Option Tmp}{ty:TypeId}{pos:String}{after:Array Edge}{guard:Option (Nat×Bool)}
theorem v7{φ w}{ds:List (List D)}{y:Value}(h:RD φ w (.sl ds) y):∃a l c,y= .slice a l c∧(a.isNone=true→ds=[]):=by
 simp only[RD] at h
 rcases h with⟨rfl,a,cp,rfl,_⟩|⟨b,off,k,cap,rfl,_⟩
 ·exact⟨_,_,_,rfl,λ_=>rfl⟩
 ·exact⟨_,_,_,rfl,λh=>by simp at h⟩
theorem WL.cast(t:Nat){x y:AV}(ht:env.get t=some x)(hl:Le x y)(h:WL P e ops rest ((t,y)::env) st R):WL P e ops rest env st R:=
 WL.sub (Sub.cons ht hl (Sub.refl env)) h
theorem pn(b:Bool):b=true∨b=false:=by cases b<;>simp
end
end Go.Sk
namespace Go.Sk
open Go.RowKit (Below)
end Go.Sk
namespace Go.Sk
open Go.RowKit (Below)
section
variable{P:Program}{e:En}{ops:Array Oper}{l rest:List Oper}{env:Env}{st:List AO}{R:Env→List AO→Prop}{K:Ko}
def Gh(e:En)(env:Env)(st:List AO)(env':Env)(st':List AO):Prop:=∀m φ a w,Inv e m φ env st a w→∃m' φ',Inv e m' φ' env' st' a w
theorem Gh.wc{c:Code}{env':Env}{st':List AO}(h:Gh e env st env' st')(k:WC P e c K env' st'):WC P e c K env st:=λm φ a w hi=>
 let ⟨m',φ',hi'⟩:=h m φ a w hi
 k m' φ' a w hi'
theorem Gh.wl{env':Env}{st':List AO}(h:Gh e env st env' st')(k:WL P e ops l env' st' R):WL P e ops l env st R:=λm φ a w hi=>
 let ⟨m',φ',hi'⟩:=h m φ a w hi
 k m' φ' a w hi'
end
end Go.Sk
namespace Go.Sk
open Go.RowKit (Below)
section
variable{P:Program}{env:Env}{st:List AO}{dst:Option Tmp}{ty:TypeId}{pos:String}{after:Array Edge}{guard:Option (Nat×Bool)}
end
section
variable{P:Program}{e:En}{ops:Array Oper}{l rest:List Oper}{env:Env}{st:List AO}{R:Env→List AO→Prop}{K:Ko}
end
end Go.Sk
namespace Go.Sk
open Go.RowKit (Below)
section
variable{P:Program}{env:Env}{st:List AO}{dst:Option Tmp}{ty:TypeId}{pos:String}{after:Array Edge}{guard:Option (Nat×Bool)}
theorem kO{T:TypeId}{x:Operand}{r:AV}{ds:List D}(hx:opv env x=some r)(hk:r.okc=true)(hc:Les r.cells (ds.map .d)):DoesB P env st ⟨dst, .box T x,ty,pos,after,guard⟩ (.d (.pc ds)) st:=λm φ a w hs he=>by
 obtain⟨vs,h1,h2⟩:=aD (af he hx) hk
 have h2':=a8 (hc.ras h2)
 let w':=w.alloc (.cells ⟨vs⟩ T)
 let φ':Nat→Nat:=λb=>if b=w.heap.size then ds.length else φ b
 have hb:Below w.heap.size w w':=(Below.refl _ _).alloc (Nat.le_refl _) _
 have hF:Fz φ w φ' w':=λb off c g1 g2=>by
  have hlt:=bG hs g1
  refine⟨?_,by rw[bv (hb.block b hlt)];exact g2⟩
  show off<if b=w.heap.size then ds.length else φ b
  rw[if_neg oM];exact g1
 have hk':∀b,b<w.heap.size→w'.heap[b]? =w.heap[b]?∧φ' b=φ b:=λb hlt=>⟨hb.block b hlt,if_neg oM⟩
 have hlt:∀b,w'.heap.size≤b→φ' b=0:=λb h=>by
  have h3:w'.heap.size=w.heap.size+1:=by simp[w']
  show(if b=w.heap.size then ds.length else φ b)=0
  rw[if_neg oM];exact hs.lt b oM
 refine⟨.pointer (some ⟨w.heap.size,0,none⟩),w',m,φ',by simp[execOp,Instr.box,newVar,newRow,h1,w'],⟨Pre.refl m,λ_ h=> .inl h,hb.os,hb.tape,hb.output,hb.size,λb h _=>hk' b h,hF⟩,hs.of_keep hk' hF hlt,?_,hb⟩
 simp only[RA,RD]
 refine⟨_,0,rfl,b9 (RFs.mono hF _ _ h2') λj v hj=>?_⟩
 have hjl:j<vs.length:=cD hj
 have hvl:=dN h2'
 refine⟨?_,?_⟩
 ·show 0+j<if w.heap.size=w.heap.size then ds.length else φ w.heap.size
  rw[if_pos rfl];omega
 ·have:w'.heap[w.heap.size]? =some (.cells ⟨vs⟩ T (0,0)):=heap_alloc_new w _
  refine nG ?_ (by simp[World.frozen?,this])
  unfold World.cell?
  simp only[this]
  simpa using hj
end
theorem Le.fnc{f:Fn}{a b:List AV}{a' b':List D}(h:Les a (a'.map .d))(k:Les b (b'.map .d)):Le (.fn f a b) (.d (.fnc f a' b')):=λ_ _ _ _ hh=>by
 simp only[RA,RD] at hh⊢
 obtain⟨fs,cs,h1,h2,h3⟩:=hh
 exact⟨fs,cs,h1,a8 (h.ras h2),a8 (k.ras h3)⟩
theorem eE(f:Fn)(a b:List D):Le (.d (.fnc f a b)) (.fn f (a.map .d) (b.map .d)):=λ_ _ _ _ hh=>by
 simp only[RA,RD] at hh⊢
 obtain⟨fs,cs,h1,h2,h3⟩:=hh
 exact⟨fs,cs,h1,a9 h2,a9 h3⟩
theorem Les.app:∀{xs ys us vs:List AV},Les xs ys→Les us vs→Les (xs++us) (ys++vs)
 |[],[],_,_,_,k=>k
 |_x::_xs,_y::_ys,_,_,h,k=>⟨h.1,Les.app h.2 k⟩
 |[],_::_,_,_,h,_=>h.elim
 |_::_,[],_,_,h,_=>h.elim
theorem kY{fi ca:List D}{asz:List AV}{ds:List D}(h:Les asz (ds.map .d)):Les (fi.map .d++asz++ca.map .d) ((fi++ds++ca).map .d):=by
 rw[List.map_append,List.map_append]
 exact Les.app (Les.app (Les.refl _) h) (Les.refl _)
section
variable{P:Program}{env:Env}{st:List AO}{dst:Option Tmp}{ty:TypeId}{pos:String}{after:Array Edge}{guard:Option (Nat×Bool)}
end
end Go.Sk
namespace Go.Sk
open Go.RowKit (Below)
def fy(s:ByteArray)(i:Int):Option Int:=if h:0≤i∧i<s.size then some ((s[i.toNat]'oM).toNat:Int) else none
def oV(s:ByteArray)(l h:Int):Option ByteArray:=bif decide (0≤h)&&decide (h≤(s.size:Int))&&decide (0≤l)&&decide (l≤h) then some (s.extract l.toNat h.toNat) else none
section
variable{P:Program}{env:Env}{st:List AO}{dst:Option Tmp}{ty:TypeId}{pos:String}{after:Array Edge}{guard:Option (Nat×Bool)}
theorem bg{T:TypeId}{x ix:Operand}{k:IntKind}{s:ByteArray}{i r:Int}(hT:P.underlying T=some .string)(hx:opv env x=some (.d (.v (.string s))))(hi:opv env ix=some (.d (.v (.int k i))))(h:fy s i=some r):
  Yields P env st ⟨dst, .index T x ix,ty,pos,after,guard⟩ (.d (.v (.int .u8 r))):=λm φ a w _ he=>by
 refine⟨_,RAv,λw' _=>?_⟩
 unfold fy at h
 split at h
 ·rename_i hc
  simp only[aa] at h
  subst h
  simp only[execOp,ah he hx,ah he hi,Sem.run_bind,run_index_string w' T s k i hT,dif_pos hc]
  simp
 ·cases h
theorem uE{T:TypeId}{x l h:Operand}{k k':IntKind}{s r:ByteArray}{i j:Int}(hT:P.underlying T=some .string)(hx:opv env x=some (.d (.v (.string s))))(hl:opv env l=some (.d (.v (.int k i))))(hh:opv env h=some (.d (.v (.int k' j))))(hr:oV s i j=some r):
  Yields P env st ⟨dst, .slice T x (some l) (some h) none,ty,pos,after,guard⟩ (.d (.v (.string r))):=λm φ a w _ he=>by
 refine⟨_,RAv,λw' _=>?_⟩
 unfold oV at hr
 cases hc:(decide (0≤j)&&decide (j≤(s.size:Int))&&decide (0≤i)&&decide (i≤j)) with
 |false=>rw[hc] at hr;cases hr
 |true=>
  rw[hc] at hr
  obtain rfl:=inS hr
  simp only[Bool.and_eq_true,decide_eq_true_eq] at hc
  simp[execOp,ah he hx,ah he hl,ah he hh,Instr.sliceAt,run_underlying hT,run_slice_string_if w' T s k k' i j hT,hc]
theorem rN{T:TypeId}{x l:Operand}{k:IntKind}{s r:ByteArray}{i:Int}(hT:P.underlying T=some .string)(hx:opv env x=some (.d (.v (.string s))))(hl:opv env l=some (.d (.v (.int k i))))(hr:oV s i s.size=some r):
  Yields P env st ⟨dst, .slice T x (some l) none none,ty,pos,after,guard⟩ (.d (.v (.string r))):=λm φ a w _ he=>by
 refine⟨_,RAv,λw' _=>?_⟩
 unfold oV at hr
 cases hc:(decide (0≤(s.size:Int))&&decide ((s.size:Int)≤(s.size:Int))&&decide (0≤i)&&decide (i≤(s.size:Int))) with
 |false=>rw[hc] at hr;cases hr
 |true=>
  rw[hc] at hr
  obtain rfl:=inS hr
  simp only[Bool.and_eq_true,decide_eq_true_eq] at hc
  simp[execOp,ah he hx,ah he hl,Instr.sliceAt,run_underlying hT,run_slice_string_from_if w' T s k i hT,hc]
end
end Go.Sk
namespace Go.Sk
open Go.RowKit (Below)
open Go.MapKept (IsKey sameNow_of_keys run_getObj_map run_setObj_map run_checkKey run_findKey run_keyThatStays)
section
variable{P:Program}{env:Env}{st:List AO}{dst:Option Tmp}{ty:TypeId}{pos:String}{after:Array Edge}{guard:Option (Nat×Bool)}
variable{κ α:Type}[DecidableEq κ]
end
end Go.Sk
namespace Go.Sk
open Go.RowKit (Below)
def AV.okS(st:List AO):AV→Bool
 | .os id ver=>match st[id]? with|some (.os _ _ v _)=>Nat.beq v ver|_=>false
 | .pe id ver _=>match st[id]? with|some (.os _ _ v _)=>Nat.beq v ver|_=>false
 |x=>x.okc
theorem qk{st:List AO}{id ver off T k:Nat}{es:List (List AV)}(hs:st[id]? =some (.os T k ver es)):∀m φ w v,SR m φ st w→RA m φ w (.pe id ver off) v→v.oneCell'=true∧v.cells= #[v]:=λm φ w v hsr h=>by
 simp only[RA] at h
 obtain⟨v0,y0,h1,_,h3⟩:=h
 obtain⟨y,xs,h4,_⟩:=hsr.obj _ _ _ hs h1
 simp only[Cz.tok.injEq] at h4
 obtain⟨b,_,_,_,h5⟩:=h3 h4.1.symm
 subst h5
 exact⟨rfl,rfl⟩
theorem dy{m φ w st}{x:AV}{y:Value}(hs:SR m φ st w)(h:RA m φ w x y)(hk:x.okS st=true):∃vs,y.cells=⟨vs⟩∧RAs m φ w x.cells vs:=by
 cases x with
 |os id ver=>
  simp only[AV.okS] at hk
  split at hk
  ·rename_i T k v es hi
   obtain rfl:=nbE hk
   exact⟨[y],(ql hi m φ w y hs h).2,au h aR⟩
  ·cases hk
 |u=>exact aD h hk
 |d z=>exact aD h hk
 |ag ps=>exact aD h hk
 |pt id off=>exact aD h hk
 |sr id off len cap=>exact aD h hk
 |fn f a b=>exact aD h hk
 |mp id=>exact aD h hk
 |tu l=>exact aD h hk
 |pe id ver off=>
  simp only[AV.okS] at hk
  split at hk
  ·rename_i T k v es hi
   obtain rfl:=nbE hk
   exact⟨[y],(qk hi m φ w y hs h).2,au h aR⟩
  ·cases hk
 |ow id v off len lo=>exact aD h hk
 |fs es=>exact aD h hk
 |ifc t x=>exact aD h hk
 |osf id j v=>exact aD h hk
 |pem id j v off=>exact aD h hk
 |yl id=>exact aD h hk
 |kv v z=>exact aD h hk
def eA(st:List AO)(place:Nat→Option (Nat×Nat))(cells:List AV):List (Nat×AV)→Option (List AV)
 |[]=>some cells
 |(i,v)::rest=>
  match place i with
  |none=>none
  |some (off,size)=>
   bif Nat.beq v.cells.length size&&Nat.ble (off+v.cells.length) cells.length&&v.okS st then eA st place (cells.take off++(v.cells++cells.drop (off+size))) rest
   else none
theorem iY{m φ w st}(hsr:SR m φ st w){place:Nat→Option (Nat×Nat)}:∀{parts:List (Nat×AV)}{pv:List (Nat×Value)}{cells cs:List AV}{vs:List Value},parts.map (·.1)=pv.map (·.1)→RAs m φ w (parts.map (·.2)) (pv.map (·.2))→
  RAs m φ w cells vs→eA st place cells parts=some cs→∃us,Instr.fill place ⟨vs⟩ pv=some ⟨us⟩∧RAs m φ w cs us
 |[],pv,cells,cs,vs,hi,hv,hc,hf=>by
  simp only[eA,aa] at hf
  subst hf
  cases pv with
  |nil=>exact⟨vs,rfl,hc⟩
  |cons p pv=>simp at hi
 |(i,x)::parts,[],cells,cs,vs,hi,hv,hc,hf=>by simp at hi
 |(i,x)::parts,(i',v)::pv,cells,cs,vs,hi,hv,hc,hf=>by
  simp only[List.map_cons,List.cons.injEq] at hi
  obtain⟨rfl,hi⟩:=hi
  simp only[List.map_cons,RAs] at hv
  obtain⟨c,cs',he,hx,hv⟩:=hv
  simp only[List.cons.injEq] at he
  obtain⟨rfl,rfl⟩:=he
  unfold eA at hf
  split at hf
  ·cases hf
  ·rename_i off size hp
   cases hb:(Nat.beq x.cells.length size&&Nat.ble (off+x.cells.length) cells.length&&x.okS st) with
   |false=>rw[hb] at hf;cases hf
   |true=>
    rw[hb] at hf
    simp only[cdT] at hf
    simp only[Bool.and_eq_true] at hb
    obtain⟨⟨b1,b2⟩,b3⟩:=hb
    have b1:=nbE b1
    have b2:=nbT b2
    obtain⟨us,g1,g2⟩:=dy hsr hx b3
    have l1:=aj g2
    have l2:=aj hc
    obtain⟨us',k1,k2⟩:=iY hsr hi hv (ak (aV off hc) (ak g2 (aZ (off+size) hc))) hf
    refine⟨us',?_,k2⟩
    rw[gA hp (by rw[g1];simp;omega) (by rw[g1];simp;omega)]
    rw[g1]
    simpa using k1
section
variable{P:Program}{env:Env}{st:List AO}{dst:Option Tmp}{ty:TypeId}{pos:String}{after:Array Edge}{guard:Option (Nat×Bool)}
theorem pN{T:TypeId}{parts:Array (Nat×Operand)}{pl:List (Nat×Nat)}{zs:List Value}{xs cs:List AV}(hp:bw P T=some pl)(hz:ao P T=some zs)(hx:aX env (parts.toList.map (·.2))=some xs)
  (hf:eA st (λi=>pl[i]?) (zs.map λv=> .d (.v v)) (gg parts.toList xs)=some cs):Yields P env st ⟨dst, .build T parts,ty,pos,after,guard⟩ (.ag cs):=λm φ a w hs he=>by
 have h1:=dY he hx
 have hl:parts.toList.length=xs.length:=by have:=bV hx;simpa using this.symm
 obtain⟨e1,e2⟩:=fj (l:=parts.toList) (xs:=xs) hl rfl
 obtain⟨us,g1,g2⟩:=iY hs (m:=m) (φ:=φ) (w:=w) (parts:=gg parts.toList xs) (pv:=parts.toList.map λ(i,x)=>(i,a.eval x)) (by rw[e1];simp[Function.comp_def]) (by rw[e2];exact h1) (cm zs) hf
 refine⟨.agg ⟨us⟩,by simp only[RA];exact⟨us,rfl,g2⟩,λw' hb=>?_⟩
 obtain⟨z,z1,z2⟩:=cr hz w'
 unfold bw at hp
 split at hp
 ·rename_i fs hu
  have hm:=dg (P:=P) (λf:Field=>(Prod.mk f.offset<$>sizeOf f.type:Sem (Nat×Nat))) (λf=>(aM P f.type).map λn=>(f.offset,n)) w' fs.toList pl (λf b _ hb=>by
   cases hsz:aM P f.type with
   |none=>simp[hsz] at hb
   |some n=>simp only[hsz,Option.map_some,aa] at hb;subst hb;simp[ae hsz]) hp
  have hm':(fs.mapM (λf:Field=>(Prod.mk f.offset<$>sizeOf f.type:Sem (Nat×Nat)))).run P w'= .ok pl.toArray w':=by
   rw[←Array.toArray_toList (xs:=fs),List.mapM_toArray]
   simp[hm]
  simp[execOp,Instr.build,z1,run_underlying hu,hm',z2,g1]
 ·cases hp
theorem rq{T:TypeId}{x:Operand}{r:AV}(hx:opv env x=some r)(hk:r.okS st=true):DoesB P env st ⟨dst, .box T x,ty,pos,after,guard⟩ (.pt st.length 0) (st++ [.row T r.cells]):=λm φ a w hs he=>by
 obtain⟨vs,h1,h2⟩:=dy hs (af he hx) hk
 obtain⟨h3,h4,h5⟩:=gG (T:=T) hs h2
 exact⟨.pointer (some ⟨w.heap.size,0,none⟩),_,_,φ,by simp[execOp,Instr.box,newVar,newRow,h1],h3,h4,by simp only[RA];exact⟨_,h5,rfl⟩,(Below.refl _ _).alloc (Nat.le_refl _) _⟩
end
end Go.Sk
namespace Go.Sk
open Go.RowKit (Below)
theorem tM{m φ w m' φ' w'}{st:List AO}{obj:AO}{id:Nat}{c:Cz}(hs:SR m φ st w)(hid:st[id]? =some .rsv)(hlt:da st.length (st++ [obj])=true)(he:Ev m φ w m' φ' w')(hs':SR m' φ' (st++ [obj]) w')(hc:m'[st.length]? =some c):
  Ev m φ w ((m'.take st.length).set id c) φ' w'∧SR ((m'.take st.length).set id c) φ' (st.set id obj) w'∧((m'.take st.length).set id c)[id]? =some c:=by
 have hidl:=(giS.1 hid).1
 have hml:m'.length=st.length+1:=by rw[hs'.len];simp
 have htl:(m'.take st.length).length=st.length:=by rw[List.length_take,hml];omega
 have hnon:m'[id]? =some .non:=by
  have h1:(st++ [obj])[id]? =some .rsv:=by rw[List.getElem?_append_left hidl];exact hid
  obtain⟨c',h2⟩:∃c',m'[id]? =some c':=⟨_,geG oM⟩
  have:=hs'.obj id _ c' h1 h2
  simp only[OR] at this
  rw[h2,this]
 have hget:∀i,i≠id→i<st.length→((m'.take st.length).set id c)[i]? =m'[i]? :=λi hi hil=>by
  rw[List.getElem?_set_ne (Ne.symm hi),List.getElem?_take,if_pos hil]
 have hself:((m'.take st.length).set id c)[id]? =some c:=by rw[List.getElem?_set_self (by rw[htl];exact hidl)]
 have hpre:Pre (m'.take st.length) ((m'.take st.length).set id c):=λi x hx=>by
  by_cases hi:i=id
  ·subst hi
   rw[List.getElem?_take,if_pos hidl,hnon] at hx
   simp only[aa] at hx
   subst hx
   exact⟨c,hself,trivial⟩
  ·exact⟨x,by rw[List.getElem?_set_ne (Ne.symm hi)];exact hx,Cz.le_refl x⟩
 -- an object of the new store is one of the old
 have old:∀(i:Nat)(o:AO)(x:Cz),(st.set id obj)[i]? =some o→((m'.take st.length).set id c)[i]? =some x→∃j,(st++ [obj])[j]? =some o∧m'[j]? =some x∧(i=id∧j=st.length∨i≠id∧j=i∧i<st.length):=λi o x h1 h2=>by
  by_cases hi:i=id
  ·subst hi
   rw[List.getElem?_set_self hidl] at h1
   rw[hself] at h2
   simp only[aa] at h1 h2
   subst h1;subst h2
   exact⟨st.length,sM,hc, .inl ⟨rfl,rfl⟩⟩
  ·rw[List.getElem?_set_ne (Ne.symm hi)] at h1
   have hil:=(giS.1 h1).1
   rw[hget i hi hil] at h2
   exact⟨i,by rw[List.getElem?_append_left hil];exact h1,h2, .inr ⟨hi,rfl,hil⟩⟩
 have hF:Fz φ' w' φ' w':=Fz.refl _ _
 refine⟨⟨λi x hx=>?_,λb hb=>?_,he.os,he.tape,he.output,he.size,he.keep,he.fz⟩,⟨by rw[List.length_set,List.length_set,htl],λi o x h1 h2=>?_,hs'.lt,λi j o o' x x' b h1 h2 l1 l2 g1 g2 b1 b2=>?_,hs'.gl,λb hb=>?_⟩,hself⟩
 rotate_right
 ·obtain⟨i,x,h1,h2⟩:=hb
  by_cases hi:i=id
  ·subst hi
   rw[hself] at h1
   simp only[aa] at h1
   subst h1
   exact hs'.nb b ⟨_,_,hc,h2⟩
  ·rw[List.getElem?_set_ne (Ne.symm hi),List.getElem?_take] at h1
   split at h1
   ·exact hs'.nb b ⟨_,_,h1,h2⟩
   ·cases h1
 ·have hil:i<st.length:=by rw[←hs.len];exact(giS.1 hx).1
  obtain⟨y,hy,hle⟩:=he.pre i x hx
  obtain⟨z,hz,hle2⟩:=hpre i y (by rw[List.getElem?_take,if_pos hil];exact hy)
  exact⟨z,hz,Cz.le_trans hle hle2⟩
 ·obtain⟨i,x,h1,h2⟩:=hb
  by_cases hi:i=id
  ·subst hi
   rw[hself] at h1
   simp only[aa] at h1
   subst h1
   exact he.new b ⟨_,_,hc,h2⟩
  ·rw[List.getElem?_set_ne (Ne.symm hi),List.getElem?_take] at h1
   split at h1
   ·exact he.new b ⟨_,_,h1,h2⟩
   ·cases h1
 ·obtain⟨j,h3,h4,_⟩:=old i o x h1 h2
  have h5:=OR.take (n:=st.length) (cv hlt h3) (hs'.obj j o x h3 h4)
  exact h5.congr hpre (Fz.refl _ _) (λ_ _=>⟨rfl,rfl⟩)
 ·obtain⟨i',p1,p2,p3⟩:=old i o x h1 g1
  obtain⟨j',q1,q2,q3⟩:=old j o' x' h2 g2
  have:=hs'.inj i' j' o o' x x' b p1 q1 l1 l2 p2 q2 b1 b2
  rcases p3 with⟨rfl,rfl⟩|⟨hi,rfl,hil⟩<;>rcases q3 with⟨rfl,rfl⟩|⟨hj,rfl,hjl⟩
  ·rfl
  ·omega
  ·omega
  ·exact this
section
variable{P:Program}{env:Env}{st:List AO}{o:Oper}
theorem DoesB.fill{r r2:AV}{obj:AO}(h:DoesB P env st o r (st++ [obj]))(id:Nat)(hid:st[id]? =some .rsv)(hlt:da st.length (st++ [obj])=true)
  (hr:(∃off,r= .pt st.length off∧r2= .pt id off)∨(∃v,r= .os st.length v∧r2= .os id v)∨(r= .mp st.length∧r2= .mp id)):DoesB P env st o r2 (st.set id obj):=λm φ a w hs he=>by
 obtain⟨v,w',m',φ',h1,h2,h3,h4,h5⟩:=h m φ a w hs he
 have hml:m'.length=st.length+1:=by rw[h3.len];simp
 obtain⟨c,hc⟩:∃c,m'[st.length]? =some c:=⟨_,geG oM⟩
 obtain⟨g1,g2,g3⟩:=tM hs hid hlt h2 h3 hc
 refine⟨v,w',_,φ',h1,g1,g2,?_,h5⟩
 rcases hr with⟨off,rfl,rfl⟩|⟨ver,rfl,rfl⟩|⟨rfl,rfl⟩
 ·simp only[RA] at h4⊢
  obtain⟨b,q1,q2⟩:=h4
  rw[hc] at q1
  exact⟨b,g3.trans q1,q2⟩
 ·simp only[RA] at h4⊢
  obtain⟨ver0,y0,q1,q2⟩:=h4
  rw[hc] at q1
  exact⟨ver0,y0,g3.trans q1,q2⟩
 ·simp only[RA] at h4⊢
  obtain⟨b,q1,q2⟩:=h4
  rw[hc] at q1
  exact⟨b,g3.trans q1,q2⟩
end
theorem vF{e:En}{env:Env}{st:List AO}:Gh e env st env (st++ [.rsv]):=λm φ a w hi=>by
 have hF:Fz φ w φ w:=Fz.refl _ _
 have hnew:∀b,Cz.non.has b→w.heap.size≤b:=λb hb=>hb.elim
 exact⟨_,_,hi.go (Ev.push hi.sr hF (λ_ _=>rfl) (Nat.le_refl _) rfl rfl rfl hnew) (SR.push hi.sr hF (λ_ _=>rfl) (Nat.le_refl _) rfl hnew)⟩
theorem lA{P:Program}{env:Env}{st:List AO}{dst:Option Tmp}{ty:TypeId}{pos:String}{after:Array Edge}{guard:Option (Nat×Bool)}{T el k by_:Nat}(hT:bW P T=some (el,k,by_)):NewOs P env st ⟨dst, .buildSlice T 0 #[],ty,pos,after,guard⟩ el k []:=λm φ a w hs he=>by
 obtain⟨i,ht,hi,rfl,rfl⟩:=ck hT
 have hso:(sizeOf el).run P w= .ok i.size w:=by simp[sizeOf,typeInfo,hi]
 have hb:Below w.heap.size w (w.alloc (.cells #[] el)):=(Below.refl _ _).alloc (Nat.le_refl _) _
 have hF:=Fz.alloc hs (.cells #[] el)
 have hk:∀b,b<w.heap.size→(w.alloc (.cells #[] el)).heap[b]? =w.heap[b]? :=λb hb=>aw hb
 have hnew:∀b,(Cz.tok 0 (.slice (some ⟨w.heap.size,0,none⟩) 0 0)).has b→w.heap.size≤b:=λb hb=>by simp only[Cz.has,Value.ownBlock,aa] at hb;omega
 refine⟨.slice (some ⟨w.heap.size,0,none⟩) 0 0,w.alloc (.cells #[] el),?_,Ev.push hs hF hk sM rfl rfl rfl hnew,SR.push hs hF hk sM ?_ hnew,hb,λb hb=>by simp only[Value.ownBlock,aa] at hb;omega⟩
 ·simp[execOp,Instr.buildSlice,run_underlying ht,hso,Instr.fill,newRow]
  have:Array.map (λx=>(default:Value)) (Array.range 0)= #[]:=by apply Array.toList_inj.mp;simp
  rw[this]
 ·refine⟨_,[],rfl,⟨sM, .inr ⟨w.heap.size,0, #[],rfl,Nat.zero_le _,heap_alloc_new w _,Nat.le_refl _,Nat.zero_le _,sM,sM⟩⟩,by simp[RAs],sM,λb hb=>?_⟩
  simp only[Value.ownBlock,aa] at hb
  exact hs.lt _ oM
def upB(k:Nat)(es:List Nat)(c:List Bool):List Bool:=List.zipWith (λe b=>b||Nat.beq e k) es c
theorem nq(k:Nat)(L:Nat→Bool):∀es:List Nat,upB k es (es.map L)=es.map λe=>L e||Nat.beq e k
 |[]=>rfl
 |e::es=>by simp only[upB,List.map_cons,List.zipWith_cons_cons,List.cons.injEq,true_and];exact nq k L es
def kS:Nat→List (List Bool)
 |0=> [[]]
 |n+1=>(kS n).map (false::·)++(kS n).map (true::·)
theorem lB:∀{n:Nat}(c:List Bool),c.length=n→c∈kS n
 |0,[],_=>by simp[kS]
 |n+1,b::c,h=>by
  have ih:=lB c (Nat.succ.inj h)
  cases b
  ·exact List.mem_append.2 (.inl (List.mem_map.2 ⟨c,ih,rfl⟩))
  ·exact List.mem_append.2 (.inr (List.mem_map.2 ⟨c,ih,rfl⟩))
 |0,_::_,h=>by simp at h
 |_+1,[],h=>by simp at h
theorem dc{L:Nat→Bool}:∀{es:List Nat}{y:Nat}{b:Bool},(y,b)∈es.zip (es.map L)→y∈es∧b=L y
 |e::es,y,b,h=>by
  simp only[List.map_cons,List.zip_cons_cons] at h
  rcases List.mem_cons.1 h with h|h
  ·simp only[Prod.mk.injEq] at h;obtain⟨rfl,rfl⟩:=h;exact⟨List.mem_cons_self,rfl⟩
  ·exact⟨List.mem_cons_of_mem _ (dc h).1,(dc h).2⟩
def ObT(P:Program)(e:En)(l:List Oper)(rs:List AV)(base:Env)(s s':List AO)(k:Nat)(o:Oper)(pk bk:List Nat):Prop:=
 ∀F:Env,WL P e l.toArray [o] (bQ l rs base pk bk++F) s λenv' st'=>st'=s'∧∃pre,env'=pre++(bQ l rs base pk bk++F)∧
  (∀t x,pre.get t=some x→o.dst=some t)∧∀d r,o.dst=some d→rs[k]? =some r→pre.get d=some r
def rG(P:Program)(e:En)(l:List Oper)(rs:List AV)(base:Env)(sts:List Bool→List AO)(es:List Nat)(k:Nat)(o:Oper)(pk bk:List Nat):List (List Bool)→Prop
 |[]=>True
 |c::cs=>ObT P e l rs base (sts c) (sts (upB k es c)) k o pk bk∧rG P e l rs base sts es k o pk bk cs
def pw(P:Program)(e:En)(l:List Oper)(rs:List AV)(base:Env)(sts:List Bool→List AO)(es:List Nat):Nat→List Oper→List (List Nat×List Nat×List (List Bool))→Prop
 |k,o::ol,p::ps=>rG P e l rs base sts es k o p.1 p.2.1 p.2.2∧pw P e l rs base sts es (k+1) ol ps
 |_,_,_=>True
theorem ms{P e l rs base sts es k o pk bk}:∀{cs:List (List Bool)},rG P e l rs base sts es k o pk bk cs→∀c∈cs,ObT P e l rs base (sts c) (sts (upB k es c)) k o pk bk
 |c::cs,h,c',hc=>by
  rcases List.mem_cons.1 hc with rfl|hc
  ·exact h.1
  ·exact ms h.2 c' hc
theorem mr{P e l rs base sts es}:∀{ol:List Oper}{ps:List (List Nat×List Nat×List (List Bool))}{k j:Nat}{o:Oper}{p:List Nat×List Nat×List (List Bool)},pw P e l rs base sts es k ol ps→ol[j]? =some o→ps[j]? =some p→rG P e l rs base sts es (k+j) o p.1 p.2.1 p.2.2
 |o0::ol,p0::ps,k,0,o,p,h,h1,h2=>by
  simp only[List.getElem?_cons_zero,aa] at h1 h2
  subst h1;subst h2;exact h.1
 |o0::ol,p0::ps,k,j+1,o,p,h,h1,h2=>by
  have:=mr h.2 (by simpa using h1:ol[j]? =some o) (by simpa using h2:ps[j]? =some p)
  rw[show k+(j+1)=k+1+j by omega];exact this
 |[],_,_,_,_,_,_,h1,_=>by simp at h1
 |_::_,[],_,_,_,_,_,_,h2=>by simp at h2
def gH(l:List Oper)(tc:List (List Nat))(es:List Nat)(plan:List (List Nat×List Nat×List (List Bool))):Bool:=
 oS l tc&&cC (l.filterMap (·.dst))&&Nat.beq plan.length l.length&&
 (List.range l.length).all λk=>match plan[k]? with
  |none=>false
  |some (pk,bk,cs)=>(pk.all λj=>(tc.getD k []).contains j)&&
   (bk.all λx=>(List.range l.length).all λj=>match l[j]? with|some o=> !(o.dst==some x)||Nat.beq j k||(tc.getD j []).contains k|none=>true)&&
   (kS es.length).all λc=>cs.contains c||(es.zip c).any λp=>(p.2&&(Nat.beq p.1 k||(tc.getD p.1 []).contains k))||(!p.2&&(tc.getD k []).contains p.1)||
    (p.2&&(es.zip c).any λq=> !q.2&&(tc.getD p.1 []).contains q.1)
section
variable{P:Program}{e:En}{l:List Oper}{rs:List AV}{base:Env}{sts:List Bool→List AO}{es:List Nat}
def AtT(e:En)(l:List Oper)(rs:List AV)(base:Env)(sts:List Bool→List AO)(es:List Nat)(L:Nat→Bool)(a:Act)(w:World):Prop:=
 ∃m φ,Inv e m φ (FL base L (aH l rs 0)) (sts (es.map L)) a w
theorem po{Q':Exit→Act→World→Prop}(hnf:av l=true){tc:List (List Nat)}{plan:List (List Nat×List Nat×List (List Bool))}(hok:gH l tc es plan=true)(hrs:rs.length=l.length)(hobs:pw P e l rs base sts es 0 l plan)
  {L L':Nat→Bool}{k:Nat}{o:Oper}(ho:l[k]? =some o)(hd:ne l L)(hLn:∀y,L y=true→y<l.length)(hk:L k=false)(hpre:∀e∈o.after,Region.binds .any e=true→L e.on=true)
  (hL:∀j,j≠k→L' j=L j)(hk':L' k=true){a:Act}{w:World}(hat:AtT e l rs base sts es L a w):
  wpOpIn (EF e.rd) 0 P l.toArray Q' k (λa' w'=>AtT e l rs base sts es L' a' w') a w:=by
 obtain⟨m,φ,hi⟩:=hat
 simp only[gH,Bool.and_eq_true] at hok
 obtain⟨⟨⟨htc,hnd⟩,hpl⟩,hall⟩:=hok
 have hkl:k<l.length:=(giS.1 ho).1
 have h1:=List.all_eq_true.1 hall k (List.mem_range.2 hkl)
 cases hp:plan[k]? with
 |none=>simp[hp] at h1
 |some p=>
  obtain⟨pk,bk,cs⟩:=p
  simp only[hp,Bool.and_eq_true] at h1
  obtain⟨⟨hpk,hbk⟩,hcs⟩:=h1
  have hobk:=mr hobs ho hp
  rw[Nat.zero_add] at hobk
  have htck:=dp htc hd k o ho hpre
  have htcl:∀(y:Nat),L y=true→k∉tc.getD y []:=λy hy hm=>by
   have hyl:=hLn y hy
   have hoy:l[y]? =some l[y]:=geG hyl
   have:=dp htc hd y _ hoy (λe' he' hb=>hd y _ hoy hy e' he' hb) k hm
   rw[hk] at this;cases this
  -- the store is one of those that the plan names
  have hc:es.map L∈cs:=by
   have h2:=List.all_eq_true.1 hcs (es.map L) (lB _ (List.length_map _))
   simp only[Bool.or_eq_true] at h2
   rcases h2 with h2|h2
   ·simpa using h2
   ·obtain⟨⟨y,b⟩,hy,h3⟩:=List.any_eq_true.1 h2
    obtain⟨hye,rfl⟩:=dc hy
    simp only[Bool.or_eq_true,Bool.and_eq_true,Bool.not_eq_true'] at h3
    rcases h3 with(⟨hL,h3|h3⟩|⟨hL,h3⟩)|⟨hL,h3⟩
    ·rw[nbE h3,hk] at hL;cases hL
    ·exact absurd (by simpa using h3) (htcl y hL)
    ·have:=htck y (by simpa using h3)
     rw[hL] at this;cases this
    ·obtain⟨⟨z,b⟩,hz,h4⟩:=List.any_eq_true.1 h3
     obtain⟨_,rfl⟩:=dc hz
     simp only[Bool.and_eq_true,Bool.not_eq_true'] at h4
     have hyl:=hLn y hL
     have hoy:l[y]? =some l[y]:=geG hyl
     have:=dp htc hd y _ hoy (λe' he' hb=>hd y _ hoy hL e' he' hb) z (by simpa using h4.2)
     rw[h4.1] at this;cases this
  have hob:=ms hobk _ hc
  have hcnt:es.map L'=upB k es (es.map L):=by
   rw[nq]
   apply List.map_congr_left
   intro y _
   by_cases hyk:y=k
   ·subst hyk;simp[hk']
   ·rw[hL y hyk]
    have:Nat.beq y k=false:=by
     cases hb:Nat.beq y k with
     |false=>rfl
     |true=>exact absurd (nbE hb) hyk
    rw[this,Bool.or_false]
  have hreg:=ek (rs:=rs) (k:=0) (cw hnd)
  have regk:∀(j t:Nat)(x:AV),(j,t,x)∈aH l rs 0→∃o',l[j]? =some o'∧o'.dst=some t∧rs[j]? =some x:=λj t x hm=>by
   obtain⟨_,o',h1,h2,h3⟩:=gv hm
   exact⟨o',by simpa using h1,h2,by simpa using h3⟩
  -- what the operation needs is there
  have hek:∀t x,(bQ l rs base pk bk).get t=some x→(FL base L (aH l rs 0)).get t=some x:=λt x hx=>by
   rcases ig hx with⟨j,hj,hm⟩|⟨hm,hb⟩
   ·exact jk hreg.1 hm (htck j (by simpa using List.all_eq_true.1 hpk j hj))
   ·rw[k5]
    ·exact hb
    ·intro j r hjm
     obtain⟨o',h2,h3,_⟩:=regk j t r hjm
     have h4:=List.all_eq_true.1 (List.all_eq_true.1 hbk t hm) j (List.mem_range.2 (giS.1 h2).1)
     simp only[h2,h3,beq_self_eq_true,Bool.not_true,Bool.false_or,Bool.or_eq_true] at h4
     rcases h4 with h4|h4
     ·rw[nbE h4];exact hk
     ·cases hLj:L j with
      |false=>rfl
      |true=>exact absurd (by simpa using h4) (htcl j hLj)
  have hsub:Sub (bQ l rs base pk bk++FL base L (aH l rs 0)) (FL base L (aH l rs 0)):=λt x hx=>by
   rw[Env.get_append] at hx
   cases hg:(bQ l rs base pk bk).get t with
   |some y=>rw[hg] at hx;simp only[aa] at hx;subst hx;exact⟨y,hek t y hg,Le.refl y⟩
   |none=>rw[hg] at hx;exact⟨x,hx,Le.refl x⟩
  refine is hnf ho (hob (FL base L (aH l rs 0))) (hi.sub hsub) ?_
  rintro a' w' env' st' m' φ' ⟨rfl,pre,rfl,hp1,hp2⟩ hi'
  refine⟨m',φ',?_⟩
  rw[hcnt]
  refine hi'.sub (λt x hx=>?_)
  rw[Env.get_append,Env.get_append]
  cases hpt:pre.get t with
  |some y=>
   have hdt:=hp1 t y hpt
   cases hrk:rs[k]? with
   |none=>exact absurd (List.getElem?_eq_none_iff.1 hrk) oM
   |some r=>
    have h2:=hp2 t r hdt hrk
    rw[hpt] at h2
    simp only[aa] at h2
    subst h2
    have h3:(FL base L' (aH l rs 0)).get t=some y:=jk hreg.1 (by simpa using eo (k:=0) ho hdt hrk) hk'
    rw[h3] at hx
    simp only[aa] at hx
    subst hx
    exact⟨y,rfl,Le.refl y⟩
  |none=>
   have h3:(FL base L' (aH l rs 0)).get t=(FL base L (aH l rs 0)).get t:=kZ hL (λr hr=>by
    obtain⟨o',h2,h3,h4⟩:=regk k t r hr
    rw[ho] at h2
    simp only[aa] at h2
    subst h2
    have:=hp2 t r h3 h4
    rw[hpt] at this;cases this)
   rw[h3] at hx
   cases hg:(bQ l rs base pk bk).get t with
   |some y=>
    have:=hek t y hg
    rw[hx] at this
    simp only[aa] at this
    subst this
    exact⟨x,rfl,Le.refl x⟩
   |none=>exact⟨x,hx,Le.refl x⟩
theorem ru(hnf:av l=true){tc:List (List Nat)}{plan:List (List Nat×List Nat×List (List Bool))}{Q:Exit→Act→World→Prop}(hok:gH l tc es plan=true)(hrs:rs.length=l.length)(hobs:pw P e l rs base sts es 0 l plan)
  (hQ:∀a w,AtT e l rs base sts es (λk=>Nat.blt k l.length) a w→Q .normal a w):
  ∀(f:Nat)(listed:Array Bool)(a:Act)(w:World),listed.size=l.length→ne l (Lof listed)→listed.toList.count false≤f→AtT e l rs base sts es (Lof listed) a w→wpAnyIn (EF e.rd) 0 P .any l.toArray Q f listed a w:=by
 have htc:oS l tc=true:=by simp only[gH,Bool.and_eq_true] at hok;exact hok.1.1.1
 -- what is ready
 have rdy:∀(listed:Array Bool)(i:Nat),listed.size=l.length→i∈Region.ready .any l.toArray listed→∃o,l[i]? =some o∧Lof listed i=false∧listed[i]? =some false∧∀e∈o.after,Region.binds .any e=true→Lof listed e.on=true:=by
  intro listed i hsz hi
  obtain⟨h0,o,ho,hall⟩:=mem_ready.1 hi
  have hil:i<listed.size:=by
   rcases Nat.lt_or_ge i listed.size with h|h
   ·exact h
   ·simp[Array.getD,Nat.not_lt.2 h] at h0
  have h1:listed[i]? =some false:=by
   rw[Array.getElem?_eq_getElem hil]
   simp[Array.getD,hil] at h0
   rw[h0]
  exact⟨o,by simpa using ho,by simp[Lof,Array.getD_eq_getD_getElem?,h1],h1,λe he hb=>hall e he hb⟩
 -- where nothing is ready, all is listed
 have full:∀(listed:Array Bool),listed.size=l.length→Region.ready .any l.toArray listed=[]→Lof listed=λk=>Nat.blt k l.length:=by
  intro listed hsz hr
  have key:∀k,k<l.length→Lof listed k=true:=by
   intro k
   induction k using Nat.strongRecOn with
   |_ k ih=>
    intro hk
    cases hLk:Lof listed k with
    |true=>rfl
    |false=>
     exfalso
     have hok':l[k]? =some l[k]:=geG hk
     have:k∈Region.ready .any l.toArray listed:=by
      refine mem_ready.2 ⟨?_,l[k],by simp[hk],λe he hb=>?_⟩
      ·have hks:k<listed.size:=oM
       simp only[Lof,Array.getD,hks,dif_pos] at hLk⊢
       exact hLk
      ·have h1:=List.all_eq_true.1 htc k (List.mem_range.2 hk)
       simp only[hok',Bool.and_eq_true] at h1
       have h2:=List.all_eq_true.1 h1.1 e (Array.mem_toList_iff.2 he)
       simp only[hb,Bool.not_true,Bool.false_or] at h2
       have hlt:e.on<k:=by simpa[Nat.blt_eq] using h2
       exact ih e.on hlt oM
     rw[hr] at this;cases this
  funext k
  rcases Nat.lt_or_ge k l.length with h|h
  ·rw[key k h];simp[Nat.blt_eq,h]
  ·have:Lof listed k=false:=by simp[Lof,Array.getD,Nat.not_lt.2 (by omega:listed.size≤k)]
   rw[this]
   cases hb:Nat.blt k l.length with
   |false=>rfl
   |true=>
     have:k<l.length:=by simpa[Nat.blt_eq] using hb
     omega
 intro f
 induction f with
 |zero=>
  intro listed a w hsz hdn hcn hat
  have hr:Region.ready .any l.toArray listed=[]:=by
   cases hr:Region.ready .any l.toArray listed with
   |nil=>rfl
   |cons i r=>
    obtain⟨o,_,_,h1,_⟩:=rdy listed i hsz (by rw[hr];exact List.mem_cons_self)
    have:false∈listed.toList:=List.mem_of_getElem? (i:=i) (by simpa using h1)
    have:=List.count_pos_iff.2 this
    omega
  exact⟨hr,hQ a w (full listed hsz hr▸hat)⟩
 |succ f ih=>
  intro listed a w hsz hdn hcn hat
  refine⟨λhr=>hQ a w (full listed hsz hr▸hat),λi hi=>?_⟩
  obtain⟨o,ho,hLi,hli,hpre⟩:=rdy listed i hsz hi
  have hil:i<listed.size:=(Array.getElem?_eq_some_iff.1 hli).1
  have hother:∀j,j≠i→Lof (listed.setIfInBounds i true) j=Lof listed j:=λj hj=>by
   simp only[Lof,Array.getD_eq_getD_getElem?,Array.getElem?_setIfInBounds_ne (Ne.symm hj)]
  have hself:Lof (listed.setIfInBounds i true) i=true:=by simp[Lof,Array.getD_eq_getD_getElem?,hil]
  have hstep:=po (Q':=Q) hnf (L':=Lof (listed.setIfInBounds i true)) hok hrs hobs ho hdn (λy hy=>by
   rcases Nat.lt_or_ge y l.length with h|h
   ·exact h
   ·simp[Lof,Array.getD,Nat.not_lt.2 (by omega:listed.size≤y)] at hy) hLi hpre hother hself hat
  refine wpOpIn_mono (λa' w' hat'=>ih _ a' w' (by simpa using hsz) ?_ ?_ hat') hstep
  ·intro k ok hk hLk e he hb
   by_cases hki:k=i
   ·subst hki
    rw[ho] at hk
    simp only[aa] at hk
    subst hk
    have:=hpre e he hb
    by_cases hei:e.on=k
    ·rw[hei];exact hself
    ·rw[hother _ hei];exact this
   ·rw[hother k hki] at hLk
    have:=hdn k ok hk hLk e he hb
    by_cases hei:e.on=i
    ·rw[hei];exact hself
    ·rw[hother _ hei];exact this
  ·have:=gD (l:=listed.toList) (i:=i) (by simpa using hli)
   rw[Array.toList_setIfInBounds]
   omega
theorem jI:∀{es:List Nat}{L:Nat→Bool},(∀y,L y=false)→es.map L=List.replicate es.length false
 |[],_,_=>rfl
 |e::es,L,h=>by rw[List.map_cons,h e,jI h];rfl
theorem lF:∀{es:List Nat}{L:Nat→Bool},(∀y∈es,L y=true)→es.map L=List.replicate es.length true
 |[],_,_=>rfl
 |e::es,L,h=>by rw[List.map_cons,h e List.mem_cons_self,lF (λy hy=>h y (List.mem_cons_of_mem _ hy))];rfl
theorem jm{k:Ko}{env:Env}{st:List AO}{id:Nat}(rs:List AV)(tc:List (List Nat))(es:List Nat)(sts:List Bool→List AO)(plan:List (List Nat×List Nat×List (List Bool)))(hm:P.follows .mixedOrders=true)
  (hok:gH l tc es plan=true)(hrs:Nat.beq rs.length l.length=true)(hes:es.all (λy=>Nat.blt y l.length)=true)(hst:sts (List.replicate es.length false)=st)(hobs:pw P e l rs env sts es 0 l plan)
  (h:WE P e .normal k (FL env (λk=>Nat.blt k l.length) (aH l rs 0)) (sts (List.replicate es.length true)))(hnf:av l=true:=by kernel_rfl):WC P e (.region id l.toArray true) k env st:=λm φ a w hi=>by
 have hQ:∀a' w',AtT e l rs env sts es (λk=>Nat.blt k l.length) a' w'→k.den P e .normal a' w':=λa' w' ⟨m',φ',hi'⟩=>by
  rw[lF λy hy=>List.all_eq_true.1 hes y hy] at hi'
  exact h m' φ' a' w' hi'
 have hz:∀j,Lof (Array.replicate l.toArray.size false) j=false:=λj=>by simp[Lof,Array.getD]
 have hdn:ne l (Lof (Array.replicate l.toArray.size false)):=λk o _ hL=>by rw[hz] at hL;cases hL
 have hat:AtT e l rs env sts es (Lof (Array.replicate l.toArray.size false)) a { w with drawn:=w.drawn+1 }:=by
  have hc:es.map (Lof (Array.replicate l.toArray.size false))=List.replicate es.length false:=jI hz
  have hf:∀reg:List (Nat×Nat×AV),FL env (Lof (Array.replicate l.toArray.size false)) reg=env:=by
   intro reg
   induction reg with
   |nil=>rfl
   |cons p reg ih=>obtain⟨j,d,r⟩:=p;simp only[FL,hz,cdF];exact ih
  refine⟨m,φ,?_⟩
  rw[hc,hf,hst]
  exact hi.below ((Below.refl _ _).drew) (hi.env.mono (Pre.refl m) (Fz.refl φ w)) hi.sz rfl
 exact wpIn_region_any hm (ru hnf (sts:=sts) (base:=env) hok (nbE hrs) hobs hQ _ _ a _ sM hdn sM hat)
end
end Go.Sk
namespace Go.Sk
open Go.RowKit (Below)
theorem di{α:Type}{k:Nat}:∀(l:List (List α))(n:Nat),(∀e∈l,e.length=k)→(l.drop n).flatten=l.flatten.drop (n*k)
 |[],n,_=>sM
 |e::l,0,_=>sM
 |e::l,n+1,hl=>by
  have he:=hl e sM
  have ih:=di l n (λe he=>hl e (by simp[he]))
  have h1:e.drop ((n+1)*k)=[]:=List.drop_of_length_le (by rw[he,Nat.succ_mul];omega)
  have h2:(n+1)*k - k=n*k:=by rw[Nat.succ_mul];omega
  rw[List.drop_succ_cons,List.flatten_cons,ih,List.drop_append,he,h1,List.nil_append,h2]
theorem cu{α:Type}{k:Nat}:∀(l:List (List α))(n:Nat),(∀e∈l,e.length=k)→(l.take n).flatten=l.flatten.take (n*k)
 |[],n,_=>sM
 |e::l,0,_=>sM
 |e::l,n+1,hl=>by
  have he:=hl e sM
  have ih:=cu l n (λe he=>hl e (by simp[he]))
  have h1:e.take ((n+1)*k)=e:=List.take_of_length_le (by rw[he,Nat.succ_mul];omega)
  have h2:(n+1)*k - k=n*k:=by rw[Nat.succ_mul];omega
  rw[List.take_succ_cons,List.flatten_cons,List.flatten_cons,ih,List.take_append,he,h1,h2]
theorem WL.st{P:Program}{e:En}{ops:Array Oper}{rest:List Oper}{env:Env}{st st':List AO}{R:Env→List AO→Prop}(hs:st=st')(h:WL P e ops rest env st' R):WL P e ops rest env st R:=hs▸h
structure SlV where
 a:Option Addr
 n:Nat
 c:Nat
abbrev SlV.v(x:SlV):Value:= .slice x.a x.n x.c
def Piece(st:List AO)(x:AV)(id ver off len lo:Nat):Prop:=
 x= .ow id ver off len lo∨(x= .os id ver∧off=0∧lo=0∧∃T k es,st[id]? =some (.os T k ver es)∧len=es.length)
theorem Piece.ow{st:List AO}{id ver off len lo:Nat}:Piece st (.ow id ver off len lo) id ver off len lo:= .inl rfl
theorem Piece.os{st:List AO}{id ver len T k:Nat}{es:List (List AV)}(h:st[id]? =some (.os T k ver es))(hl:es.length=len):Piece st (.os id ver) id ver 0 len 0:= .inr ⟨rfl,rfl,rfl,T,k,es,h,hl.symm⟩
section
variable{P:Program}{env:Env}{st:List AO}{dst:Option Tmp}{ty:TypeId}{pos:String}{after:Array Edge}{guard:Option (Nat×Bool)}
theorem dt{m φ w}{x:AV}{v:Value}{id ver off len lo:Nat}{T k:Nat}{es:List (List AV)}(hs:SR m φ st w)(hx:Piece st x id ver off len lo)(h:RA m φ w x v)(hi:st[id]? =some (.os T k ver es)):
  ∃y xs,m[id]? =some (.tok ver y)∧w.ownsRow 0 T k y es.length xs∧RAs m φ w es.flatten xs∧(∀e∈es,e.length=k)∧(∀b,y.ownBlock=some b→φ b=0)∧
   ((y= .slice none 0 0∧v= .slice none 0 0∧len=0)∨∃b n cap off',y= .slice (some ⟨b,0,none⟩) n cap∧v= .slice (some ⟨b,off',none⟩) len (cap - lo)∧(off'=off∨len=0)):=by
 rcases hx with rfl|⟨rfl,rfl,rfl,T',k',es',hi',rfl⟩
 ·simp only[RA] at h
  obtain⟨v0,y0,g1,g2,g3⟩:=h
  obtain⟨y,xs,e1,r1,r2,r3,r4⟩:=hs.obj id _ _ hi g1
  simp only[Cz.tok.injEq] at e1
  obtain⟨rfl,rfl⟩:=e1
  exact⟨y0,xs,g1,r1,r2,r3,r4,g3 rfl⟩
 ·rw[hi] at hi'
  simp only[aa,AO.os.injEq,true_and] at hi'
  obtain⟨rfl,rfl,rfl⟩:=hi'
  simp only[RA] at h
  obtain⟨v0,y0,g1,g2,g3⟩:=h
  obtain⟨y,xs,e1,r1,r2,r3,r4⟩:=hs.obj id _ _ hi g1
  simp only[Cz.tok.injEq] at e1
  obtain⟨rfl,rfl⟩:=e1
  have:=g3 rfl
  subst this
  refine⟨v,xs,g1,r1,r2,r3,r4,?_⟩
  rcases r1.2 with⟨rfl,h0⟩|⟨g,cap,cur,rfl,_⟩
  ·exact .inl ⟨rfl,rfl,h0⟩
  ·exact .inr ⟨g,_,cap,0,rfl,rfl, .inl rfl⟩
theorem im{T n:Nat}{bb:Bool}{x:Operand}{lo hi:Option Operand}{xr:AV}{id ver off len lo0 T':Nat}{es:List (List AV)}{l h:Int}(hT:ai P T=some (n,bb))(hx:opv env x=some xr)(hp:Piece st xr id ver off len lo0)(hi':st[id]? =some (.os T' n ver es))
  (hlo:BndI env lo 0 l)(hhi:BndI env hi len h)(h0:0≤l)(h1:l≤h)(h2:h≤len)(hfit:lo0+len≤es.length):
  Yields P env st ⟨dst, .slice T x lo hi none,ty,pos,after,guard⟩ (.ow id ver (off+l.toNat*n) (h.toNat - l.toNat) (lo0+l.toNat)):=λm φ a w hsr he=>by
 have hl:=hlo.bnd h0
 have hh:Bnd env hi len h.toNat:=hhi.bnd oM
 obtain⟨t,g1,g2,_⟩:=aQ hT
 obtain⟨y,xs,p1,p2,p3,p4,p5,p6⟩:=dt hsr hp (af he hx) hi'
 rcases p6 with⟨rfl,q2,rfl⟩|⟨b,nn,cap,off',rfl,q2,q3⟩
 ·have e1:l=0:=oM
  have e2:h=0:=oM
  subst e1;subst e2
  refine⟨.slice none 0 0,by rw[RA];exact⟨_,_,p1,Nat.le_refl _,λ_=> .inl ⟨rfl,rfl,rfl⟩⟩,λw' _=>?_⟩
  have:=aF (P:=P) he hl hh (Nat.le_refl _) (Nat.le_refl 0) w'
  simp_all [execOp,Instr.sliceAt,run_underlying g1,Instr.slice,ae g2]
 ·have hcap:es.length≤cap:=by
   rcases p2.2 with⟨hv,_⟩|⟨g,cap',cur,hv,_,_,r3,_⟩
   ·cases hv
   ·simp only[Value.slice.injEq] at hv;omega
  by_cases hcl:cap - lo0=l.toNat
  ·refine⟨.slice (some ⟨b,off',none⟩) (h.toNat - l.toNat) (cap - lo0 - l.toNat),by simp only[RA];exact⟨_,_,p1,Nat.le_refl _,λ_=> .inr ⟨b,nn,cap,off',rfl,by rw[Nat.sub_sub], .inr oM⟩⟩,λw' _=>?_⟩
   have:=aF (P:=P) (len:=len) (cap:=cap - lo0) he hl hh oM oM w'
   rw[hcl] at this⊢
   simp[execOp,Instr.sliceAt,run_underlying g1,Instr.slice,q2,hcl,this,ae g2]
  ·refine⟨.slice (some ⟨b,off'+l.toNat*n,none⟩) (h.toNat - l.toNat) (cap - lo0 - l.toNat),by
    simp only[RA]
    refine⟨_,_,p1,Nat.le_refl _,λ_=> .inr ⟨b,nn,cap,_,rfl,by rw[Nat.sub_sub],?_⟩⟩
    rcases q3 with rfl|q3
    ·exact .inl rfl
    ·exact .inr oM,λw' _=>?_⟩
   have:=aF (P:=P) (len:=len) (cap:=cap - lo0) he hl hh oM oM w'
   simp[execOp,Instr.sliceAt,run_underlying g1,Instr.slice,q2,this,ae g2,hcl,Addr.add]
theorem pG{T n:Nat}{bb:Bool}{x:Operand}{id ver off len lo T' k:Nat}{es:List (List AV)}{c:Call}(hT:ai P T=some (n,bb))(hc:c=⟨.builtin .len, #[x], #[T]⟩)(hx:opv env x=some (.ow id ver off len lo))(hi:st[id]? =some (.os T' k ver es)):
  Yields P env st ⟨dst, .call c,ty,pos,after,guard⟩ (.d (.v (.int .i64 len))):=λm φ a w hs he=>by
 obtain⟨y,xs,p1,p2,p3,p4,p5,p6⟩:=dt hs Piece.ow (af he hx) hi
 obtain⟨t,g1,_,_⟩:=aQ hT
 refine⟨_,RAv,λw' _=>?_⟩
 subst hc
 rcases p6 with⟨_,h2,rfl⟩|⟨b,n,cap,off',_,h2,_⟩
 ·simp[execOp,resolve,invoke,builtin,Builtin.len_,h2,run_underlying g1,goInt]
 ·simp[execOp,resolve,invoke,builtin,Builtin.len_,h2,run_underlying g1,goInt]
theorem Src.ow{id ver off len lo T k:Nat}{es:List (List AV)}(hi:st[id]? =some (.os T k ver es))(hoff:off=lo*k)(hfit:lo+len≤es.length):Src st (.ow id ver off len lo) k ((es.drop lo).take len):=λm φ w v hs h=>by
 subst hoff
 obtain⟨y,xs,p1,p2,p3,p4,p5,p6⟩:=dt hs Piece.ow h hi
 have hlen:((es.drop lo).take len).length=len:=by simp;omega
 have hd:∀e∈es.drop lo,e.length=k:=λe he=>p4 e (List.mem_of_mem_drop he)
 refine⟨(xs.drop (lo*k)).take (len*k),?_,?_,?_⟩
 ·rw[cu _ _ hd,di _ _ p4]
  exact aV _ (aZ _ p3)
 ·rw[hlen]
  have:=aj p3
  have hx:xs.length=es.length*k:=p2.1
  rw[List.length_take,List.length_drop,hx,←Nat.sub_mul]
  exact Nat.min_eq_left (Nat.mul_le_mul_right k oM)
 ·rw[hlen]
  rcases p6 with⟨_,h2,h3⟩|⟨b,n,cap,off',rfl,h2,h3⟩
  ·exact .inl ⟨h2,h3⟩
  ·refine .inr ⟨_,_,h2,λj u hj=>?_⟩
   have hjl:j<len*k:=by
    have:=(giS.1 hj).1
    rw[List.length_take] at this;omega
   rw[List.getElem?_take,if_pos hjl,List.getElem?_drop] at hj
   rcases h3 with rfl|rfl
   ·have:=b4 p2 hj
    rw[b8];exact this
   ·omega
theorem y_com{x:Operand}{T:TypeId}{k:IntKind}{p c:Int}(hx:opv env x=some (.d (.v (.int k p))))(hw:k.wrap (BitVec.ofInt k.bits (if k.signed then -1 else k.max)^^^BitVec.ofInt k.bits p).toNat=c):Yields P env st ⟨dst, .unOp .xor T x,ty,pos,after,guard⟩ (.d (.v (.int k c))):=λm φ a w _ he=>by
 subst hw
 exact⟨_,RAv,λw' _=>by simp[execOp,ah he hx,Op.unary,Op.intBits]⟩
theorem nh{T n:Nat}{bb:Bool}{x ix:Operand}{α:Type}{E:α→D}(tab:List α){kk:IntKind}{i:Int}{z:α}(hT:bL P T=some (n,1,bb))(hx:opv env x=some (.d (.pc (tab.map E))))(hi:opv env ix=some (.d (.v (.int kk i))))(hl:tab.length=n)(h:idx tab i=some z):
  Yields P env st ⟨dst, .indexAddr T x ix,ty,pos,after,guard⟩ (.d (.pc [E z])):=λm φ a w hs he=>by
 obtain⟨v,h1,h2⟩:=de (dst:=dst) (ty:=ty) (pos:=pos) (after:=after) (guard:=guard) hT hx hi (az h) (by rw[←hl];exact mW h) m φ a w hs he
 refine⟨v,?_,h2⟩
 simp only[RA,RD] at h1⊢
 obtain⟨b,off,g1,g2⟩:=h1
 refine⟨b,off,g1,?_⟩
 have hz:=fP h
 have hd:(tab.map E).drop (i.toNat*1)=E z::(tab.map E).drop (i.toNat+1):=by
  rw[Nat.mul_one]
  have hlt:i.toNat<(tab.map E).length:=by simpa using (giS.1 hz).1
  rw[List.drop_eq_getElem_cons hlt]
  congr 1
  have:=(giS.1 hz).2
  simp[this]
 rw[hd] at g2
 simp only[RPs] at g2⊢
 exact⟨g2.1,trivial⟩
end
end Go.Sk
namespace Go.Sk
open Go.RowKit (Below)
def AV.ok1S(st:List AO):AV→Bool
 | .os id ver=>match st[id]? with|some (.os _ _ v _)=>Nat.beq v ver|_=>false
 | .pe id ver _=>match st[id]? with|some (.os _ _ v _)=>Nat.beq v ver|_=>false
 |x=>x.ok1
theorem ge{m φ w st}(hs:SR m φ st w):∀{xs:List AV}{vs:List Value},RAs m φ w xs vs→xs.all (AV.ok1S st)=true→∀v∈vs,v.oneCell'=true
 |[],vs,h,_,v,hv=>by simp only[RAs] at h;subst h;simp at hv
 |x::xs,vs,h,hk,v,hv=>by
  simp only[RAs] at h
  obtain⟨c,cs,rfl,h2,h3⟩:=h
  simp only[List.all_cons,Bool.and_eq_true] at hk
  rcases List.mem_cons.1 hv with rfl|hv
  ·have key:∀y:AV,RA m φ w y v→y.ok1S st=true→v.oneCell'=true:=λy hy hky=>by
    cases y with
    |os id ver=>
     simp only[AV.ok1S] at hky
     split at hky
     ·rename_i T k v' es hi
      obtain rfl:=nbE hky
      exact(ql hi m φ w v hs hy).1
     ·cases hky
    |pe id ver off=>
     simp only[AV.ok1S] at hky
     split at hky
     ·rename_i T k v' es hi
      obtain rfl:=nbE hky
      exact(qk hi m φ w v hs hy).1
     ·cases hky
    |_=>exact nc hy hky
   exact key x h2 hk.1
  ·exact ge hs h3 hk.2 v hv
section
variable{P:Program}{env:Env}{st:List AO}{dst:Option Tmp}{ty:TypeId}{pos:String}{after:Array Edge}{guard:Option (Nat×Bool)}
theorem rh{T:TypeId}{x y:Operand}{id off n:Nat}{T':TypeId}{cs:List AV}{r:AV}{rs:List AV}(hx:opv env x=some (.pt id off))(hs:st[id]? =some (.row T' cs))(hy:opv env y=some r)(hk:r.okS st=true)(hc:r.cells=rs)(hk1:rs.all (AV.ok1S st)=true)
  (hn:aM P T=some n)(hl:rs.length=n)(hlen:Nat.ble (off+n) cs.length=true):
  Does P env st ⟨dst, .store T x y,ty,pos,after,guard⟩ (.d (.v undef)) (st.set id (.row T' (cs.take off++rs++cs.drop (off+n)))):=λm φ a w hsr he=>by
 obtain⟨b,h1,h2⟩:=dZ he hx
 obtain⟨b',hbb,_,vs,h3,h4⟩:=hsr.obj id _ _ hs h1
 simp only[Cz.blk.injEq] at hbb
 subst hbb
 obtain⟨us,g1,g2⟩:=dy hsr (af he hy) hk
 rw[hc] at g2
 have hul:=aj g2
 have hvl:=aj h4
 have hle:=nbT hlen
 have hst:=run_storeCells_at P b off T' us 0 ⟨vs⟩ w h3 (by simp;omega) (ge hsr g2 hk1)
 simp only[Nat.add_zero,hul,hl] at hst
 have hnew:RAs m φ w (cs.take off++rs++cs.drop (off+n)) (vs.take off++us++vs.drop (off+n)):=ak (ak (aV off h4) g2) (aZ _ h4)
 obtain⟨k1,k2⟩:=nA hsr hs h1 hnew
 refine⟨undef,_,m,φ, .inr ⟨?_,rfl⟩,k1,k2,RAv⟩
 have hsize:us.length=n:=oM
 simp[execOp,Instr.storeAt,Instr.sureAddr,h2,storeVar,g1,ae hn,hsize,hst]
end
section
variable{P:Program}{e:En}{ops:Array Oper}{rest:List Oper}{env:Env}{st:List AO}{R:Env→List AO→Prop}{ty:TypeId}{pos:String}{after:Array Edge}{d:Nat}{op:Op}{r:AV}{x:Operand}{k:Ko}
theorem WL.qn(hy:Yields P env st ⟨some d,op,ty,pos,after,none⟩ r)(hd:Nat.ble (d+1) e.n=true)(h:WL P e ops rest ((d,r)::env) st R):WL P e ops (⟨some d,op,ty,pos,after,none⟩::rest) env st R:=WL.q hy (Wt.none rfl) rfl hd h
theorem WL.ns{y:Code}(h:WC P e y k env st):WL P e ops [] env st (λenv' st'=>WE P e .normal (.seq y k) env' st'):=WL.nil (dE h)
theorem WL.qy{j t:Nat}{b:Bool}(hy:Yields P env st ⟨some d,op,ty,pos,after,some (j,b)⟩ r)(hj:(ops[j]?).bind (·.dst)=some t)(hx:env.get t=some (.d (.v (.bool b))))(hd:Nat.ble (d+1) e.n=true)(h:WL P e ops rest ((d,r)::env) st R):WL P e ops (⟨some d,op,ty,pos,after,some (j,b)⟩::rest) env st R:=WL.q hy (bd rfl hj hx) rfl hd h
theorem WQ.qn{n:Nat}{RQ:Env→Prop}(hy:Yields P env st ⟨some d,op,ty,pos,after,none⟩ r)(hd:Nat.ble (d+1) n=true)(h:WQ P n ops rest ((d,r)::env) st RQ):WQ P n ops (⟨some d,op,ty,pos,after,none⟩::rest) env st RQ:=WQ.q (Yields.quiet hy) (Wt.none rfl) rfl hd h
theorem WQ.qy{n j t:Nat}{b:Bool}{RQ:Env→Prop}(hy:Yields P env st ⟨some d,op,ty,pos,after,some (j,b)⟩ r)(hj:(ops[j]?).bind (·.dst)=some t)(hx:env.get t=some (.d (.v (.bool b))))(hd:Nat.ble (d+1) n=true)(h:WQ P n ops rest ((d,r)::env) st RQ):WQ P n ops (⟨some d,op,ty,pos,after,some (j,b)⟩::rest) env st RQ:=WQ.q (Yields.quiet hy) (bd rfl hj hx) rfl hd h
end
end Go.Sk
namespace Go.Sk
section
variable{e:En}{env:Env}{st:List AO}
end
end Go.Sk
namespace Go.Sk
open Go.RowKit (Below)
def Rd(e:En)(id:Nat):Prop:=∃l,e.rd=some l∧e.m[id]? =some (.blk l)
theorem lU:∀(ps:List Nat)(vals:List Value)(tm:Array Value),ps.Nodup→(∀p∈ps,p<tm.size)→
  ((List.zip ps vals).foldl (λtmps (x:Nat×Value)=>tmps.setIfInBounds x.1 x.2) tm).size=tm.size∧
  (∀(i p:Nat)(v:Value),ps[i]? =some p→vals[i]? =some v→((List.zip ps vals).foldl (λtmps (x:Nat×Value)=>tmps.setIfInBounds x.1 x.2) tm)[p]? =some v)∧
  (∀t,t∉ps→((List.zip ps vals).foldl (λtmps (x:Nat×Value)=>tmps.setIfInBounds x.1 x.2) tm)[t]? =tm[t]?)
 |[],vals,tm,_,_=>sM
 |p::ps,[],tm,_,_=>sM
 |p::ps,v::vals,tm,hn,hlt=>by
  obtain⟨n1,n2⟩:=List.nodup_cons.1 hn
  simp only[List.zip_cons_cons,List.foldl_cons]
  obtain⟨h1,h2,h3⟩:=lU ps vals (tm.setIfInBounds p v) n2 (λq hq=>by simpa using hlt q (List.mem_cons_of_mem _ hq))
  refine⟨by rw[h1];simp,λi q u hi hv=>?_,λt ht=>?_⟩
  ·cases i with
   |zero=>
    simp only[List.getElem?_cons_zero,aa] at hi hv
    subst hi;subst hv
    rw[h3 _ n1]
    simp[hlt p List.mem_cons_self]
   |succ i=>exact h2 i q u (by simpa using hi) (by simpa using hv)
  ·have h4:t≠p:=λh=>ht (by rw[h];exact List.mem_cons_self)
   rw[h3 t (λh=>ht (List.mem_cons_of_mem _ h)),Array.getElem?_setIfInBounds_ne (Ne.symm h4)]
theorem j5:∀{ts:List Nat}{vs:List AV}{t:Nat}{x:AV},Env.get (List.zip ts vs) t=some x→∃i:Nat,ts[i]? =some t∧vs[i]? =some x
 |[],vs,t,x,h=>by simp[Env.get] at h
 |k::ts,[],t,x,h=>by simp[Env.get] at h
 |k::ts,v::vs,t,x,h=>by
  simp only[List.zip_cons_cons] at h
  rw[an] at h
  split at h
  ·rename_i ht
   simp only[aa] at h
   subst h;subst ht
   exact⟨0,sM,sM⟩
  ·obtain⟨i,h1,h2⟩:=j5 h
   exact⟨i+1,by simpa using h1,by simpa using h2⟩
theorem get_append{a b:Env}{t:Nat}:Env.get (a++b) t=match Env.get a t with|some x=>some x|none=>Env.get b t:=by
 induction a with
 |nil=>simp[Env.get]
 |cons p a ih=>
  obtain⟨k,v⟩:=p
  rw[List.cons_append,an,an]
  split
  ·rfl
  ·exact ih
theorem k7:∀{ts:List Nat}{vs:List AV}{t:Nat},ts.length=vs.length→Env.get (List.zip ts vs) t=none→t∉ts
 |[],vs,t,_,_=>sM
 |k::ts,[],t,hl,h=>by simp at hl
 |k::ts,v::vs,t,hl,h=>by
  simp only[List.zip_cons_cons] at h
  rw[an] at h
  split at h
  ·cases h
  ·rename_i hk
   have:=k7 (by simpa using hl) h
   simp[hk,this]
theorem qd{α:Type}{m:List α}{i:Nat}{c:α}(h:m[i]? =some c):m.set i c=m:=by
 apply List.ext_getElem?
 intro j
 by_cases hj:j=i
 ·subst hj;rw[List.getElem?_set_self (giS.1 h).1,h]
 ·rw[List.getElem?_set_ne (Ne.symm hj)]
theorem mK{m:List Cz}{φ:Nat→Nat}{st:List AO}{w:World}{id l:Nat}{o:AO}{r r':Loop}(hs:SR m φ st w)(hi:st[id]? =some o)(hl:o.live=true)(hc:m[id]? =some (.blk l))(hh:w.heap[l]? =some (.loop r)){o':AO}(hlv:o'.live=true∨(∀b,(Cz.blk l).has b→(Cz.blk l).has b))
  (ho:∀w',w'.heap[l]? =some (.loop r')→Fz φ w φ w'→OR m φ w' o' (.blk l)):
  Ev m φ w m φ (w.putObj l (.loop r'))∧SR m φ (st.set id o') (w.putObj l (.loop r')):=by
 have hlt:=aP hh
 have hF:Fz φ w φ (w.putObj l (.loop r')):=λb off c h1 h2=>by
  refine⟨h1,?_⟩
  have hb:b≠l:=λh=>by subst h;have h2:=db h2;simp[World.cell?,hh] at h2
  rw[bv (bF hb)];exact h2
 have hm:=qd hc
 have:=eg (m:=m) (φ:=φ) (φ':=φ) (st:=st) (w:=w) (w':=w.putObj l (.loop r')) (o':=o') (c':= .blk l) hs hi hl hc (Cz.le_refl _) rfl rfl rfl sM (λb _ hb=>⟨bF λh=>hb h.symm,rfl⟩) hF (λb hb=>hs.lt b (by simpa using hb)) (λb h=> .inl h)
  (by rw[hm];exact ho _ (World.putObj_heap_same hlt) hF) hlv
 rwa [hm] at this
section
variable{P:Program}{e:En}{ops:Array Oper}{rest:List Oper}{o:Oper}{env:Env}{st:List AO}{R:Env→List AO→Prop}{d:Nat}{k:Ko}
theorem jp{m φ w a}{c:Call}{x:Operand}{id l:Nat}{asz:List AV}{r:Loop}(h:EnvOk m φ w env a)(hop:o.op= .call c)(hx:c.callee= .value x)(hf:opv env x=some (.yl id))(has:aX env c.args.toList=some asz)
  (hm:m[id]? =some (.blk l))(hh:w.heap[l]? =some (.loop r))(hp:asz.length=r.params.size):
  ∃vs,RAs m φ w asz vs∧(execOp a.eval o).run P w= .ok (.round l r.fn ((r.params.zip ⟨vs⟩).foldl (λtmps (t,a)=>tmps.setIfInBounds t a) r.tmps) r.assign r.body) w:=by
 have hv:=af h hf
 simp only[RA] at hv
 obtain⟨b,h1,h2⟩:=hv
 rw[hm] at h1
 simp only[aa,Cz.blk.injEq] at h1
 subst h1
 have h4:=ep h has
 refine⟨c.args.toList.map a.eval,h4,?_⟩
 have e1:(#[]++c.args.map a.eval:Array Value)=⟨c.args.toList.map a.eval⟩:=by
  apply Array.toList_inj.mp;simp
 have hl:=aj h4
 simp only[execOp,hop,resolve,hx,h2,Deferred.ofValue,Sem.run_bind,Sem.run_pure,Result.andThen_ok,invoke,e1]
 exact run_yield hh (by simpa[hl] using hp)
theorem jY{c:Call}{x:Operand}{id:Nat}{asz:List AV}{s:LpS}{vs:List AV}{pd:Option Code}(Q:AV→List AO→Prop)(hop:o.op= .call c)(hx:c.callee= .value x)(hf:opv env x=some (.yl id))(has:aX env c.args.toList=some asz)
  (hs:st[id]? =some (.lp s vs .ready pd))(hp:Nat.beq asz.length s.ps.length=true)(hps:cC s.ps=true)(hpn:(s.ps.all λp=>Nat.blt p s.n)=true)(_hts:Nat.beq s.ts.length vs.length=true)
  (hr:∀e':En,e'.n=s.n→Rd e' id→e'.m.length=st.length→WC P e' s.asg (.asg s.body (.rend Q)) (List.zip s.ps asz++List.zip s.ts vs) st)
  (hw:Wt ops env o true)(ho:o.dst=some d)(hd:Nat.ble (d+1) e.n=true)(h:∀r st',Q r st'→WL P e ops rest ((d,r)::env) st' R):WL P e ops (o::rest) env st R:=λm φ a w hi=>by
 have hidl:=(giS.1 hs).1
 obtain⟨c0,hc0⟩:∃c,m[id]? =some c:=⟨_,geG (by rw[hi.sr.len];exact hidl)⟩
 obtain⟨b,rfl,h0,r,us,g1,⟨g2,g3,g4,g5,g6,g7,g8⟩,g9⟩:=hi.sr.obj id _ c0 hs hc0
 have hp':=nbE hp
 obtain⟨vals,k1,k2⟩:=jp (P:=P) hi.env hop hx hf has hc0 g1 (by rw[hp',g3];simp)
 unfold cA
 rw[if_pos (hw _ _ _ _ hi.env)]
 refine .inr ⟨b,r.fn,_,r.assign,r.body,w,k2,?_⟩
 have hvl:=aj k1
 have hz:(r.params.zip (⟨vals⟩:Array Value)).foldl (λtmps (t,a)=>tmps.setIfInBounds t a) r.tmps=(List.zip s.ps vals).foldl (λtmps (x:Nat×Value)=>tmps.setIfInBounds x.1 x.2) r.tmps:=by
  rw[←Array.foldl_toList,Array.toList_zip,g3]
 obtain⟨f1,f2,f3⟩:=lU s.ps vals r.tmps (cw hps) (λp hp=>by
  have:=List.all_eq_true.1 hpn p hp
  rw[g2];simpa[Nat.blt_eq] using this)
 rw[hz]
 let e':En:=⟨m,φ,w,s.n,some b,none⟩
 have hinv:Inv e' m φ (List.zip s.ps asz++List.zip s.ts vs) st { tmps:=(List.zip s.ps vals).foldl (λtmps (x:Nat×Value)=>tmps.setIfInBounds x.1 x.2) r.tmps,defers:=[] } w:=by
  refine⟨hi.sr,Ev.refl m φ w,⟨λt y hy=>?_,hi.sr.gl⟩,by rw[f1];exact g2,trivial⟩
  rw[get_append] at hy
  cases hz:Env.get (List.zip s.ps asz) t with
  |some z=>
   rw[hz] at hy
   simp only[aa] at hy
   subst hy
   obtain⟨i,q1,q2⟩:=j5 hz
   obtain⟨v,q3,q4⟩:=aW k1 q2
   exact⟨v,f2 i t v q1 q3,q4⟩
  |none=>
   rw[hz] at hy
   have hnt:=k7 (by rw[hp']) hz
   obtain⟨i,q1,q2⟩:=j5 hy
   obtain⟨v,q3,q4⟩:=aW g9 q2
   exact⟨v,by rw[f3 t hnt];exact g8 i t v q1 q3,q4⟩
 have hwc:=hr e' rfl ⟨b,rfl,hc0⟩ hi.sr.len m φ _ w hinv
 have hround:RoundIn Fence.wide 0 P b r.fn ((List.zip s.ps vals).foldl (λtmps (x:Nat×Value)=>tmps.setIfInBounds x.1 x.2) r.tmps) r.assign r.body w (bp e' Q):=by
  refine roundIn_of_wpIn trivial ?_
  rw[g4,g5]
  exact hwc
 refine hround.mono ?_
 rintro en w'' ⟨v,r',st',m',φ',rfl,hQ,hev,hsr,hra⟩
 refine⟨v,rfl,?_⟩
 rw[ho]
 exact h r' st' hQ m' φ' _ w'' (hi.ev_put hev hsr (nbT hd) hra)
theorem eU{body:Code}{id:Nat}{s:LpS}{vs:List AV}{pd:Option Code}(hrd:Rd e id)(hs:st[id]? =some (.lp s vs .ready pd))(h:WC P e body k env (st.set id (.lp s vs .busy pd))):WE P e .normal (.asg body k) env st:=λm φ a w hi=>by
 obtain⟨l,h1,h2⟩:=hrd
 have hc:=hi.ev.pre.blk h2
 obtain⟨b,hb,h0,r,us,g1,g2,g3⟩:=hi.sr.obj id _ _ hs hc
 simp only[Cz.blk.injEq] at hb
 subst hb
 obtain⟨q1,q2⟩:=mK (r':={ r with state:= .busy }) (o':= .lp s vs .busy pd) hi.sr hs rfl hc g1 (.inl rfl) (λw' e1 hF=>⟨l,rfl,h0,_,us,e1,⟨g2.1,g2.2.1,g2.2.2.1,g2.2.2.2.1,rfl,g2.2.2.2.2.2.1,g2.2.2.2.2.2.2⟩,RAs.mono (Pre.refl m) hF _ _ g3⟩)
 have:=h m φ a _ (hi.go q1 q2)
 have hst:r.state= .ready:=g2.2.2.2.2.1
 show(match e.rd with|some l=>∃w₂,(Instr.beginRound l).run P w= .ok () w₂∧body.wpIn (EF e.rd) 0 P (k.den P e) a w₂|none=>False)
 rw[h1]
 exact⟨_,run_beginRound g1 hst,by rw[h1] at this;exact this⟩
theorem iF{Q:AV→List AO→Prop}{id:Nat}{s:LpS}{vs:List AV}{pd:Option Code}(jump:Option Code)(hrd:Rd e id)(hs:st[id]? =some (.lp s vs .busy pd))
  (hQ:Q (.d (.v (.bool jump.isNone))) (st.set id (.lp s vs (if jump.isNone then .ready else .done) jump))){m φ a w}(hi:Inv e m φ env st a w):
  ∃l,e.rd=some l∧∃v w',(Instr.endRound l jump).run P w= .ok v w'∧bp e Q (.returned v) w':=by
 obtain⟨l,h1,h2⟩:=hrd
 have hc:=hi.ev.pre.blk h2
 obtain⟨b,hb,h0,r,us,g1,g2,g3⟩:=hi.sr.obj id _ _ hs hc
 simp only[Cz.blk.injEq] at hb
 subst hb
 obtain⟨q1,q2⟩:=mK (r':={ r with state:=if jump.isNone then .ready else .done,pending:=jump }) (o':= .lp s vs (if jump.isNone then .ready else .done) jump) hi.sr hs rfl hc g1 (.inl rfl) (λw' e1 hF=>⟨l,rfl,h0,_,us,e1,⟨g2.1,g2.2.1,g2.2.2.1,g2.2.2.2.1,rfl,rfl,g2.2.2.2.2.2.2⟩,RAs.mono (Pre.refl m) hF _ _ g3⟩)
 exact⟨l,h1,_,_,run_endRound jump g1,_,_,_,m,φ,rfl,hQ,hi.ev.trans q1,q2,by simp[RA,RD]⟩
theorem dF{Q:AV→List AO→Prop}{id:Nat}{s:LpS}{vs:List AV}{pd:Option Code}(hrd:Rd e id)(hs:st[id]? =some (.lp s vs .busy pd))
  (hQ:Q (.d (.v (.bool true))) (st.set id (.lp s vs .ready none))):WE P e .normal (.rend Q) env st:=λm φ a w hi=>by
 obtain⟨l,h1,h2⟩:=iF (P:=P) none hrd hs hQ hi
 show(match e.rd with|some l=>roundPost P l (bp e Q)|none=>λ_ _ _=>False) .normal a w
 rw[h1];exact h2
theorem br{Q:AV→List AO→Prop}{id:Nat}{s:LpS}{vs:List AV}{pd:Option Code}(hrd:Rd e id)(hs:st[id]? =some (.lp s vs .busy pd))
  (hQ:Q (.d (.v (.bool false))) (st.set id (.lp s vs .done (some .ret)))):WE P e .ret (.rend Q) env st:=λm φ a w hi=>by
 obtain⟨l,h1,h2⟩:=iF (P:=P) (some .ret) hrd hs hQ hi
 show(match e.rd with|some l=>roundPost P l (bp e Q)|none=>λ_ _ _=>False) .ret a w
 rw[h1];exact h2
theorem kd{Q:AV→List AO→Prop}{id i:Nat}{s:LpS}{vs:List AV}{pd:Option Code}(hrd:Rd e id)(hs:st[id]? =some (.lp s vs .busy pd))
  (hQ:Q (.d (.v (.bool false))) (st.set id (.lp s vs .done (some (.exit i))))):WE P e (.exit i) (.rend Q) env st:=λm φ a w hi=>by
 obtain⟨l,h1,h2⟩:=iF (P:=P) (some (.exit i)) hrd hs hQ hi
 show(match e.rd with|some l=>roundPost P l (bp e Q)|none=>λ_ _ _=>False) (.exit i) a w
 rw[h1];exact h2
def mj(P:Program)(e:En)(k:Ko)(env:Env)(id:Nat)(st':List AO):Prop:=
 ∃st2 s vs stt pend,SLe st' st2∧st2[id]? =some (.lp s vs stt pend)∧stt≠ .busy∧
  match pend with
  |none=>WE P e .normal k env (st2.set id .dead)
  |some .ret=>WE P e .ret k env (st2.set id .dead)
  |some (.exit i)=>WE P e (.exit i) k env (st2.set id .dead)
  |_=>False
theorem lq{m φ w}{a:Act}(he:EnvOk m φ w env a):∀{ts:List Nat}{vs:List AV},aX env (ts.map .tmp)=some vs→∃us,RAs m φ w vs us∧∀(i t:Nat)(u:Value),ts[i]? =some t→us[i]? =some u→a.tmps[t]? =some u
 |[],vs,h=>by simp only[List.map_nil,aX,aa] at h;subst h;exact⟨[],aR,λi t u h=>by simp at h⟩
 |t::ts,vs,h=>by
  simp only[List.map_cons,aX] at h
  split at h
  ·rename_i y ys h1 h2
   simp only[aa] at h
   subst h
   obtain⟨us,g1,g2⟩:=lq he h2
   obtain⟨v,q1,q2⟩:=he.get t y h1
   refine⟨v::us,au q2 g1,λi t' u hi hu=>?_⟩
   cases i with
   |zero=>
    simp only[List.getElem?_cons_zero,aa] at hi hu
    subst hi;subst hu;exact q1
   |succ i=>exact g2 i t' u (by simpa using hi) (by simpa using hu)
  ·cases h
theorem jq{m φ w a}{f:FuncId}{g:Operand}{first caps:List AV}{l:Nat}(h:EnvOk m φ w env a)(hf:opv env g=some (.fn (.func f) first caps))(hc:il P f):
  ∃fs cs,RAs m φ w first fs∧RAs m φ w caps cs∧∃d:Deferred,(∀w',(resolve a.eval (rangeCall g l) 0).run P w'= .ok d w')∧∀w',(invoke d.target d.args).run P w'= .ok (.enter f ⟨fs++ .func (.yield l) #[] #[]::cs⟩) w':=by
 have hv:=af h hf
 simp only[RA] at hv
 obtain⟨fs,cs,h1,h2,h3⟩:=hv
 obtain⟨fn,g1,g2,g3⟩:=hc
 refine⟨fs,cs,h2,h3,⟨.fn (.func f) ⟨cs⟩,⟨fs⟩++ #[.func (.yield l) #[] #[]]⟩,λw'=>?_,λw'=>?_⟩
 ·have e0:(a.eval (.const (.func (.yield l) #[] #[])))= .func (.yield l) #[] #[]:=rfl
  simp only[resolve,h1,Deferred.ofValue,Sem.run_pure,List.map_toArray,List.map_cons,List.map_nil,e0]
 ·have e1:(⟨fs⟩++ #[.func (.yield l) #[] #[]]++⟨cs⟩:Array Value)=⟨fs++ .func (.yield l) #[] #[]::cs⟩:=by
   apply Array.toList_inj.mp;simp
  simp only[invoke,callFunc,Sem.run_bind,run_program,g1,g2,Bool.false_eq_true,ite_false,g3,Sem.run_pure,Result.andThen_ok,e1]
theorem jx{g:Operand}{ps:Array Tmp}{asg body:Code}{f:FuncId}{first caps:List AV}(ts:List Nat){vs:List AV}(Q:AV→List AO→Prop)(hrd:e.rd=none)(hg:opv env g=some (.fn (.func f) first caps))(hts:aX env (ts.map .tmp)=some vs)
  (hc:Ctr P f (first++ .yl st.length::caps) (st++ [.lp ⟨e.n,ts,ps.toList,asg,body⟩ vs .ready none]) Q)
  (h:∀r st',Q r st'→mj P e k env st.length st')(hnd:e.ds=none):WC P e (.rangeFunc g ps asg body) k env st:=λm φ a w hi=>by
 refine wpIn_rangeFunc λfn _=>?_
 obtain⟨fs,cs,h1,h2,d,h3,h4⟩:=jq (P:=P) (l:=w.heap.size+1) hi.env hg hc.1
 rw[hrd]
 refine⟨_,_,_,d,_,f,_,_,run_enterLoop_outer fn a.tmps ps asg body,h3 _,λ_ _=>trivial,h4 _,λhx=>by simp[EF] at hx,fe.2 ?_⟩
 obtain⟨us,u1,u2⟩:=lq hi.env hts
 let L:Loop:={ state:= .ready,pending:=none,fn,tmps:=a.tmps,params:=ps,assign:=asg,body,defers:=w.heap.size }
 let w1:World:=(w.alloc (.deferred (some []))).alloc (.loop L)
 have hs1:(w.alloc (.deferred (some []))).heap.size=w.heap.size+1:=World.size_alloc _ _
 have hsz1:w1.heap.size=w.heap.size+2:=by show((w.alloc _).alloc _).heap.size=_;rw[World.size_alloc,hs1]
 have hk1:∀b,b<w.heap.size→w1.heap[b]? =w.heap[b]? :=λb hb=>by
  show((w.alloc _).alloc _).heap[b]? =_
  rw[aw (by rw[hs1];omega),aw hb]
 have hl1:w1.heap[w.heap.size+1]? =some (.loop L):=by
  have:=World.alloc_heap_new (w.alloc (.deferred (some []))) (.loop L)
  rwa [hs1] at this
 have hd1:w1.heap[w.heap.size]? =some (.deferred (some [])):=by
  show((w.alloc _).alloc _).heap[w.heap.size]? =_
  rw[aw (by rw[hs1];omega)];exact World.alloc_heap_new w _
 have hF1:Fz φ w φ w1:=λb off c q1 q2=>⟨q1,by rw[bv (hk1 b (bG hi.sr q1))];exact q2⟩
 let m1:=m++ [Cz.blk (w.heap.size+1)]
 have hpre:Pre m m1:=Pre.append m _
 have hml:m.length=st.length:=hi.sr.len
 have hsr1:SR m1 φ (st++ [.lp ⟨e.n,ts,ps.toList,asg,body⟩ vs .ready none]) w1:=
  hi.sr.push hF1 hk1 oM ⟨_,rfl,hi.sr.lt _ oM,L,us,hl1,⟨hi.sz,by simp[L],rfl,rfl,rfl,rfl,u2⟩,RAs.mono hpre hF1 _ _ u1⟩ (λb hb=>by simp only[Cz.has] at hb;omega)
 have hev1:Ev m φ w m1 φ w1:=by
  refine⟨hpre,?_,rfl,rfl,rfl,oM,λb hb _=>⟨hk1 b hb,rfl⟩,hF1⟩
  rintro b ⟨i,c,q1,q2⟩
  rw[bl] at q1
  split at q1
  ·exact .inl ⟨i,c,q1,q2⟩
  ·split at q1
   ·simp only[aa] at q1
    subst q1
    simp only[Cz.has] at q2
    exact .inr oM
   ·cases q1
 have hra:RAs m1 φ w1 (first++ .yl st.length::caps) (fs++ .func (.yield (w.heap.size+1)) #[] #[]::cs):=by
  refine ak (RAs.mono hpre hF1 _ _ h1) (au ?_ (RAs.mono hpre hF1 _ _ h2))
  simp only[RA]
  exact⟨_,by rw[←hml];simp[m1],rfl⟩
 refine(hc.2 m1 φ w1 _ hsr1 hra).mono ?_
 rintro en w' ⟨v,r,st',m',φ',rfl,hQ,hev,hsr,_⟩
 obtain⟨st2,s,vs2,stt,pend,e1,e2,e3,e4⟩:=h r st' hQ
 have hsr2:=hsr.weak e1
 have hm1:m1[st.length]? =some (.blk (w.heap.size+1)):=by rw[←hml];simp[m1]
 have hcm:=hev.pre.blk hm1
 obtain⟨b,hb,p0,r2,us2,p1,p2,p3⟩:=hsr2.obj st.length _ _ e2 hcm
 simp only[Cz.blk.injEq] at hb
 subst hb
 obtain⟨q1,q2⟩:=mK (r':={ r2 with state:= .exhausted }) (o':= .dead) hsr2 e2 rfl hcm p1 (.inr λ_ h=>h) (λw' _ _=>trivial)
 have hst:r2.state=stt:=p2.2.2.2.2.1
 have hpd:r2.pending=pend:=p2.2.2.2.2.2.1
 refine⟨_,_,run_endLoop p1 (by rw[hst];exact e3),?_⟩
 have hmk:Marks e.w.heap.size m w a.defers:=by have:=hi.df;rw[hnd] at this;exact this
 have hmark:Marks e.w.heap.size m1 w1 ({ target:= .collected w.heap.size,args:= #[] }::a.defers):=by
  refine⟨⟨w.heap.size,rfl,hd1,?_,hi.ev.size,?_⟩,hmk.ev hev1⟩
  ·rintro⟨i,c,q1,q2⟩
   rw[bl] at q1
   split at q1
   ·exact absurd (hi.sr.nb _ ⟨i,c,q1,q2⟩) (Nat.lt_irrefl _)
   ·split at q1
    ·simp only[aa] at q1
     subst q1
     simp only[Cz.has] at q2
     omega
    ·cases q1
  ·have:∀(ds:List Deferred),Marks e.w.heap.size m w ds→∀d'∈ds,d'.target≠ .collected w.heap.size:=by
    intro ds
    induction ds with
    |nil=>intro _ d' hd';cases hd'
    |cons d0 ds ih=>
     rintro⟨⟨r0,t1,t2,_⟩,hds⟩ d' hd'
     rcases List.mem_cons.1 hd' with rfl|hd'
     ·rw[t1]
      intro hh
      simp only[Target.collected.injEq] at hh
      have:=aP t2
      omega
     ·exact ih hds d' hd'
   exact this _ hmk
 have hinv:Inv e m' φ' env (st2.set st.length .dead) { a with defers:=[{ target:= .collected w.heap.size,args:= #[] }]++a.defers } (w'.putObj (w.heap.size+1) (.loop { r2 with state:= .exhausted })):=by
  refine⟨q2,((hi.ev.trans hev1).trans hev).trans q1,?_,hi.sz,(by rw[hnd];exact(hmark.ev hev).ev q1)⟩
  have h5:=((hi.env.mono hpre hF1).mono hev.pre hev.fz).mono q1.pre q1.fz
  exact⟨h5.get,h5.gl⟩
 generalize hw4:(w'.putObj (w.heap.size+1) (.loop { r2 with state:= .exhausted }))=w4 at hinv⊢
 rw[hpd]
 cases pend with
 |none=>exact e4 m' φ' _ _ hinv
 |some c=>
  cases c with
  |ret=>exact wpIn_ret (e4 m' φ' _ _ hinv)
  |exit i=>exact wpIn_exit (e4 m' φ' _ _ hinv)
  |_=>exact e4.elim
theorem Le.tu{xs ys:List AV}(h:Les xs ys):Le (.tu xs) (.tu ys):=λ_ _ _ _ hh=>by
 simp only[RA] at hh⊢
 obtain⟨cs,h1,h2⟩:=hh
 exact⟨cs,h1,h.ras h2⟩
theorem WL.weak{l:List Oper}{st':List AO}(h:SLe st st')(hc:WL P e ops l env st' R):WL P e ops l env st R:=λm φ a w hi=>hc m φ a w (hi.weak h)
theorem pU{g:Operand}{ps:Array Tmp}{asg body:Code}{f:FuncId}{first caps us:List AV}(ts:List Nat){vs:List AV}(id:Nat)(Q:LpS→AV→List AO→Prop)(hrd:e.rd=none)(hg:opv env g=some (.fn (.func f) first caps))(hts:aX env (ts.map .tmp)=some vs)(hid:Nat.beq st.length id=true)(has:first++ .yl id::caps=us)
  (hc:∀s,s=LpS.mk e.n ts ps.toList asg body→Ctr P f us (st++ [.lp s vs .ready none]) (Q s))
  (h:∀s r st',Q s r st'→mj P e k env id st')(hnd:e.ds=none:=by rfl):WC P e (.rangeFunc g ps asg body) k env st:=by
 obtain rfl:=nbE hid
 subst has
 exact jx ts (Q _) hrd hg hts (hc _ rfl) (h _) hnd
theorem WL.yield{c:Call}{x:Operand}{id n:Nat}{asz:List AV}{s:LpS}{vs:List AV}{pd:Option Code}{ts ps:List Nat}{asg body:Code}{env0:Env}(Q:AV→List AO→Prop)(hsd:s=⟨n,ts,ps,asg,body⟩)(hop:o.op= .call c)(hx:c.callee= .value x)(hf:opv env x=some (.yl id))(has:aX env c.args.toList=some asz)
  (hs:st[id]? =some (.lp s vs .ready pd))(hp:(Nat.beq asz.length ps.length&&cC ps&&(ps.all λp=>Nat.blt p n)&&Nat.beq ts.length vs.length)=true)(he:List.zip ps asz++List.zip ts vs=env0)
  (hr:∀e':En,e'.n=n→Rd e' id→e'.m.length=st.length→WC P e' asg (.asg body (.rend Q)) env0 st)
  (hw:Wt ops env o true)(ho:o.dst=some d)(hd:Nat.ble (d+1) e.n=true)(h:∀r st',Q r st'→WL P e ops rest ((d,r)::env) st' R):WL P e ops (o::rest) env st R:=by
 subst hsd
 subst he
 simp only[Bool.and_eq_true] at hp
 exact jY Q hop hx hf has hs hp.1.1.1 hp.1.1.2 hp.1.2 hp.2 hr hw ho hd h
theorem WL.inl{f:FuncId}{c:Call}{x:Operand}{first caps asz us:List AV}(Q:AV→List AO→Prop)(hop:o.op= .call c)(hx:c.callee= .value x)
  (hf:opv env x=some (.fn (.func f) first caps))(has:aX env c.args.toList=some asz)(he:first++asz++caps=us)(hc:Ctr P f us st Q)
  (hw:Wt ops env o true)(ho:o.dst=some d)(hd:Nat.ble (d+1) e.n=true)(h:∀r st',Q r st'→WL P e ops rest ((d,r)::env) st' R):WL P e ops (o::rest) env st R:=by
 subst he
 exact WL.call hop hx hf has hc (Les.refl _) hw ho hd h
end
end Go.Sk
namespace Go.Sk
open Go.RowKit (Below)
section
variable{P:Program}{e:En}{ops:Array Oper}{env:Env}{st:List AO}{R:Env→List AO→Prop}{dst:Option Tmp}{ty:TypeId}{pos:String}{after:Array Edge}{guard:Option (Nat×Bool)}
theorem ml{φ w}:∀{ps:List D}{b off:Nat}(n:Nat),RPs φ w ps b off→RPs φ w (ps.take n) b off
 |[],_,_,_,_=>by simp[RPs]
 |p::ps,b,off,0,h=>by simp[RPs]
 |p::ps,b,off,n+1,h=>by
  simp only[RPs] at h
  simp only[List.take_succ_cons,RPs]
  exact⟨h.1,ml n h.2⟩
end
end Go.Sk
namespace Go.Sk
open Go.RowKit (Below)
section
variable{P:Program}{env:Env}{st:List AO}{dst:Option Tmp}{ty:TypeId}{pos:String}{after:Array Edge}{guard:Option (Nat×Bool)}
end
end Go.Sk
namespace Go.Sk
open Go.RowKit (Below)
end Go.Sk
namespace Go.Sk
open Go.RowKit (Below)
section
variable{P:Program}{env:Env}{st:List AO}{dst:Option Tmp}{ty:TypeId}{pos:String}{after:Array Edge}{guard:Option (Nat×Bool)}
end
end Go.Sk
namespace Go.Sk
open Go.RowKit (Below)
open Go.MapKept (run_getObj_map run_setObj_map)
structure KeyS(P:Program){κ:Type}[DecidableEq κ](kt:TypeId)(kf:κ→Value):Prop where
 wide:(match P.underlying kt with|some (.array _ _)|some (.struct _)=>true|_=>false)=true
 chk:∀em k w,(Instr.checkKey em 10000 kt (kf k)).run P w= .ok () w
 eq:∀a b w,(Op.equal kt (kf a) (kf b)).run P w= .ok (decide (a=b)) w
 same:∀a,Instr.sameBits 10000 (kf a) (kf a)=true
section
variable{κ α:Type}[DecidableEq κ]{P:Program}{kt:TypeId}{kf:κ→Value}
theorem dj(hK:KeyS P kt kf)(k:κ):∀(L:List (κ×α))(l:List MapEntry)(i:Nat),l.map (·.key)=L.map (λp=>kf p.1)→
  (cJ L k=none∧(∀w:World,(Instr.findAsking kt (kf k) l i).run P w= .ok none w)∧∀v,bo L k v=L++ [(k,v)])∨
  ∃j e x,l[j]? =some e∧L[j]? =some (k,x)∧cJ L k=some x∧e.key=kf k∧(∀w:World,(Instr.findAsking kt (kf k) l i).run P w= .ok (some (i+j,e.val)) w)∧∀v,bo L k v=L.set j (k,v)
 |[],[],i,_=> .inl ⟨rfl,by simp[Instr.findAsking],λ_=>rfl⟩
 |p::L,e::l,i,h=>by
  simp only[List.map_cons,List.cons.injEq] at h
  have hr:=λw=>hK.eq k p.1 w
  rw[←h.1] at hr
  by_cases hp:p.1=k
  ·refine .inr ⟨0,e,p.2,rfl,by simp[←hp],by simp[cJ,hp],by rw[h.1,hp],?_,λv=>by simp[bo,hp]⟩
   simp[Instr.findAsking,hr,hp]
  ·have hp':¬k=p.1:=λe=>hp e.symm
   rcases dj hK k L l (i+1) h.2 with⟨h1,h2,h3⟩|⟨j,e',x,h1,h2,h3,h4,h5,h6⟩
   ·exact .inl ⟨by simp[cJ,hp,h1],by simp[Instr.findAsking,hr,hp',h2],λv=>by simp[bo,hp,h3]⟩
   ·exact .inr ⟨j+1,e',x,by simpa using h1,by simpa using h2,by simp[cJ,hp,h3],h4,by simp[Instr.findAsking,hr,hp',h5];omega,λv=>by simp[bo,hp,h6]⟩
 |[],_::_,_,h=>by simp at h
 |_::_,[],_,h=>by simp at h
theorem d7(hK:KeyS P kt kf)(k:κ)(w:World):(Instr.keyThatStays (kf k) (kf k)).run P w= .ok (kf k) w:=by
 simp[Instr.keyThatStays,hK.same k]
end
theorem ug{P:Program}{κ:Type}[DecidableEq κ]{kt:TypeId}{kf:κ→Value}{ls:κ→List Value}{ks:List LK}(hkf:∀a,kf a= .agg ⟨ls a⟩)(hT:fN P 100 kt=some ks)(hag:aq P kt=some true)(hw:(match P.underlying kt with|some (.array _ _)|some (.struct _)=>true|_=>false)=true)
  (hc:∀em k w,(Instr.checkKey em 10000 kt (kf k)).run P w= .ok () w)(hf:∀a,aS ks (ls a)=true)(he:∀a b,eqL (ls a) (ls b)=decide (a=b))(hs:∀a,Instr.sameBits 10000 (kf a) (kf a)=true):KeyS P kt kf:=
 ⟨hw,hc,λa b w=>by
  rw[hkf a,hkf b,←he a b]
  exact((bZ (P:=P) w 100).1 kt ks 10000 (ls a) (ls b) hT dC (hf a) (hf b)).1 hag,hs⟩
theorem eJ{P:Program}{T:TypeId}{d:TypeDesc}(hu:P.underlying T=some d)(hd:dK d=false){cs:Array Value}{off:Nat}{v:Value}(hc:cs[off]? =some v)(w:World):(part T cs off).run P w= .ok v w:=by
 simp only[part,Sem.run_bind,cy ((je hu).trans (by rw[hd])) w,Result.andThen_ok,Bool.false_eq_true,if_false,hc,Sem.run_pure]
theorem gM{P:Program}{kt:TypeId}{f1 f2:Field}{k1 k2:IntKind}(hu:P.underlying kt=some (.struct #[f1,f2]))(h1:P.underlying f1.type=some (.int k1))(h2:P.underlying f2.type=some (.int k2))(o1:f1.offset=0)(o2:f2.offset=1)(hT:fN P 100 kt=some [.int k1, .int k2]):
  KeyS P kt (λx:Int×Int=> .agg ⟨[.int k1 x.1, .int k2 x.2]⟩):=
 ug (ls:=λx:Int×Int=> [.int k1 x.1, .int k2 x.2]) (λ_=>rfl) hT (je hu) (by rw[hu])
  (λem k w=>by
   have p1:=eJ (cs:=⟨[.int k1 k.1, .int k2 k.2]⟩) (off:=f1.offset) (v:= .int k1 k.1) h1 rfl (by rw[o1];rfl) w
   have p2:=eJ (cs:=⟨[.int k1 k.1, .int k2 k.2]⟩) (off:=f2.offset) (v:= .int k2 k.2) h2 rfl (by rw[o2];rfl) w
   have c1:∀n,(Instr.checkKey em (n+1) f1.type (.int k1 k.1)).run P w= .ok () w:=λn=>by simp[Instr.checkKey,run_underlying h1]
   have c2:∀n,(Instr.checkKey em (n+1) f2.type (.int k2 k.2)).run P w= .ok () w:=λn=>by simp[Instr.checkKey,run_underlying h2]
   suffices H:∀n,(Instr.checkKey em (n+2) kt (.agg ⟨[.int k1 k.1, .int k2 k.2]⟩)).run P w= .ok () w from H 9998
   intro n
   rw[Instr.checkKey]
   by_cases n1:f1.name= "_"<;>by_cases n2:f2.name= "_"<;>simp[run_underlying hu,Result.andThen,n1,n2,p1,p2,c1,c2])
  (λa=>by simp[aS,LK.fits])
  (λa b=>by
   simp only[eqL,iZ,Bool.and_true]
   by_cases e1:a.1=b.1<;>by_cases e2:a.2=b.2<;>simp[e1,e2,Prod.ext_iff])
  (λa=>by simp[Instr.sameBits])
section
variable{P:Program}{env:Env}{st:List AO}{dst:Option Tmp}{ty:TypeId}{pos:String}{after:Array Edge}{guard:Option (Nat×Bool)}
variable{κ α:Type}[DecidableEq κ]
theorem hN{w:World}{T kt et:TypeId}{kf:κ→Value}{b:Nat}{l:List MapEntry}{clock:Nat}{k:κ}{u:Value}{L:List (κ×α)}(hT:P.underlying T=some (.map kt et))(hK:KeyS P kt kf)(hb:w.heap[b]? =some (.map ⟨l⟩ clock))
  (hl:l.map (·.key)=L.map λp=>kf p.1)(v:α):∃l' clock',(Instr.mapUpdate T (.map (some b)) (kf k) u).run P w= .ok () { w with heap:=w.heap.setIfInBounds b (.map ⟨l'⟩ clock') }∧
   l'.map (·.key)=(bo L k v).map (λp=>kf p.1)∧((bo L k v=L++ [(k,v)]∧l'.map (·.val)=l.map (·.val)++ [u])∨∃j,bo L k v=L.set j (k,v)∧l'.map (·.val)=(l.map (·.val)).set j u)∧(Born l clock→Born l' clock'):=by
 have hfk:=run_findKey_eq (P:=P) w hK.wide (kf k) l
 rcases dj hK k L l 0 hl with⟨h1,h2,h3⟩|⟨j,e,x,h1,h2,h3,h4,h5,h6⟩
 ·rw[h2 w] at hfk
  refine⟨l++ [⟨kf k,u,clock⟩],clock+1,?_,by rw[h3 v];simp[hl], .inl ⟨h3 v,sM⟩,λhB=>hB.push _ _⟩
  simp[Instr.mapUpdate,run_underlying hT,MapKept.run_getObj_map hb,hK.chk,hfk,MapKept.run_setObj_map _ hb,Result.andThen]
 ·rw[h5 w] at hfk
  have hj:(⟨l⟩:Array MapEntry)[j]? =some e:=by simpa using h1
  refine⟨l.modify j (λe'=>{ e' with key:=kf k,val:=u }),clock,?_,?_, .inr ⟨j,h6 v,?_⟩,λhB=>hB.modify _ _ _⟩
  ·simp[Instr.mapUpdate,run_underlying hT,MapKept.run_getObj_map hb,hK.chk,hfk,h1,h4,d7 hK,MapKept.run_setObj_map _ hb,Result.andThen]
  ·rw[h6 v]
   apply List.ext_getElem?
   intro i
   have hi:=congrArg (λz=>z[i]?) hl
   simp only[List.getElem?_map] at hi
   rw[List.getElem?_map,List.getElem?_map,List.getElem?_modify,List.getElem?_set]
   by_cases hij:j=i
   ·subst hij
    simp[h1,(giS.1 h2).1]
   ·simp[hij];simpa using hi
  ·apply List.ext_getElem?
   intro i
   rw[List.getElem?_map,List.getElem?_modify,List.getElem?_set]
   by_cases hij:j=i
   ·subst hij
    simp[(giS.1 h1).1]
   ·simp[hij]
theorem nI{m φ w a}{ki:Operand}{ka:AV}{vs:List Value}(he:EnvOk m φ w env a)(hk:opv env ki=some ka)(hl:Le ka (.d (.ag (vs.map D.v)))):a.eval ki= .agg ⟨vs⟩:=by
 have ex:=hl _ _ _ _ (af he hk)
 simp only[RA,RD] at ex
 obtain⟨cs,e1,e2⟩:=ex
 rw[cY e2] at e1
 exact e1
theorem ju{T kt et:TypeId}{o:Oper}{x ki v:Operand}{id:Nat}(kf:κ→Value)(g:α→AV)(L:List (κ×α)){k:κ}{u:α}{ka:AV}{vs:List Value}(ho:(o=⟨dst, .insert T x ki v,ty,pos,after,guard⟩)∨(o=⟨dst, .mapUpdate T x ki v,ty,pos,after,guard⟩))(hT:P.underlying T=some (.map kt et))(hK:KeyS P kt kf)
  (hx:opv env x=some (.mp id))(hi:st[id]? =some (mpO kf g L))(hk:opv env ki=some ka)(hl:Le ka (.d (.ag (vs.map D.v))))(hkf:kf k= .agg ⟨vs⟩)(hv:opv env v=some (g u)):
  Does P env st o (.d (.v undef)) (st.set id (mpO kf g (bo L k u))):=λm φ a w hs he=>by
 obtain⟨b,h1,h2⟩:=d1 he hx
 obtain⟨b',hbb,h0,l,cl,g1,g2,g3,g4⟩:=hs.obj id _ _ hi h1
 simp only[Cz.blk.injEq] at hbb
 subst hbb
 have hkeys:l.map (·.key)=L.map (λp=>kf p.1):=by rw[g2];simp
 obtain⟨l',clock',r1,r2,r3,r4⟩:=hN (P:=P) (k:=k) (u:=a.eval v) (w:=w) hT hK g1 hkeys u
 have hru:=af he hv
 have hvals:RAs m φ w (((bo L k u).map λp=>(kf p.1,g p.2)).map (·.2)) (l'.map (·.val)):=by
  rw[List.map_map] at g3⊢
  rcases r3 with⟨e1,e2⟩|⟨j,e1,e2⟩
  ·rw[e1,e2,List.map_append];exact ak g3 (au hru aR)
  ·rw[e1,e2,List.map_set];exact gd g3 hru
 obtain⟨k1,k2⟩:=qw (clock':=clock') hs hi h1 (by rw[r2];simp) hvals (r4 g4)
 refine⟨undef,_,m,φ, .inr ⟨?_,rfl⟩,k1,k2,RAv⟩
 have hkv:=(nI he hk hl).trans hkf.symm
 rcases ho with rfl|rfl<;>simp[execOp,h2,hkv,r1]
theorem mB{T kt et:TypeId}{x ki:Operand}{id:Nat}(kf:κ→Value)(g:α→AV)(L:List (κ×α)){k:κ}{z:α}{zv:Value}{ka:AV}{vs:List Value}(hT:P.underlying T=some (.map kt et))(hK:KeyS P kt kf)
  (hx:opv env x=some (.mp id))(hi:st[id]? =some (mpO kf g L))(hk:opv env ki=some ka)(hl:Le ka (.d (.ag (vs.map D.v))))(hkf:kf k= .agg ⟨vs⟩)(hz:(P.info? et).bind (·.zero)=some zv)(hgz:g z= .d (.v zv)):
  Yields P env st ⟨dst, .lookup T x ki false,ty,pos,after,guard⟩ (g ((cJ L k).getD z)):=λm φ a w hs he=>by
 obtain⟨b,h1,h2⟩:=d1 he hx
 obtain⟨b',hbb,h0,l,cl,g1,g2,g3,g4⟩:=hs.obj id _ _ hi h1
 simp only[Cz.blk.injEq] at hbb
 subst hbb
 have hkeys:l.map (·.key)=L.map (λp=>kf p.1):=by rw[g2];simp
 have hkv:=(nI he hk hl).trans hkf.symm
 have hlt:=aP g1
 cases hinf:P.info? et with
 |none=>simp[hinf] at hz
 |some i=>
  simp only[hinf,bnS] at hz
  rcases dj hK k L l 0 hkeys with⟨q1,q2,_⟩|⟨j,e,y,q1,q2,q3,q4,q5,_⟩
  ·refine⟨zv,by rw[q1,Option.getD_none,hgz];exact RAv,λw' hb=>?_⟩
   have g1':w'.heap[b]? =some (.map ⟨l⟩ cl):=by rw[hb.block b hlt];exact g1
   have hfk:=run_findKey_eq (P:=P) w' hK.wide (kf k) l
   rw[q2 w'] at hfk
   simp[execOp,Instr.lookup,h2,hkv,run_underlying hT,MapKept.run_getObj_map g1',hK.chk,hfk,zeroValue,typeInfo,hinf,hz,Result.andThen]
  ·have hval:RA m φ w (g y) e.val:=by
    have:(((L.map λp=>(kf p.1,g p.2)).map (·.2)))[j]? =some (g y):=by simp[q2]
    obtain⟨v',hv1,hv2⟩:=aW g3 this
    simp only[List.getElem?_map,q1,Option.map_some,aa] at hv1
    rw[hv1];exact hv2
   refine⟨e.val,by rw[q3,Option.getD_some];exact hval,λw' hb=>?_⟩
   have g1':w'.heap[b]? =some (.map ⟨l⟩ cl):=by rw[hb.block b hlt];exact g1
   have hfk:=run_findKey_eq (P:=P) w' hK.wide (kf k) l
   rw[q5 w'] at hfk
   simp[execOp,Instr.lookup,h2,hkv,run_underlying hT,MapKept.run_getObj_map g1',hK.chk,hfk,Result.andThen]
end
end Go.Sk
namespace Go.Sk
open Go.RowKit (Below)
section
variable{P:Program}{env:Env}{st:List AO}{dst:Option Tmp}{ty:TypeId}{pos:String}{after:Array Edge}{guard:Option (Nat×Bool)}
theorem fS{α β:Type}{R:α→List β}{k:Nat}(hR:∀x,(R x).length=k):∀(l:List α)(i:Nat)(z:α),l[i]? =some z→∃r,(l.flatMap R).drop (i*k)=R z++r
 |[],i,z,h=>by simp at h
 |x::l,0,z,h=>by
  simp only[List.getElem?_cons_zero,aa] at h
  subst h
  exact⟨l.flatMap R,sM⟩
 |x::l,i+1,z,h=>by
  obtain⟨r,hr⟩:=fS hR l i z (by simpa using h)
  refine⟨r,?_⟩
  rw[List.flatMap_cons,List.drop_append,hR,Nat.add_mul,Nat.one_mul,Nat.add_sub_cancel,hr,List.drop_eq_nil_of_le (by rw[hR];omega),List.nil_append]
theorem uD{T n k:Nat}{bb:Bool}{x ix:Operand}{α:Type}{R:α→List D}(tab:List α){kk:IntKind}{i:Int}{z:α}(hR:∀x,(R x).length=k)(hT:bL P T=some (n,k,bb))(hx:opv env x=some (.d (.pc (tab.flatMap R))))(hi:opv env ix=some (.d (.v (.int kk i))))(hl:tab.length=n)(h:idx tab i=some z):
  Yields P env st ⟨dst, .indexAddr T x ix,ty,pos,after,guard⟩ (.d (.pc (R z))):=λm φ a w hs he=>by
 obtain⟨v,h1,h2⟩:=de (dst:=dst) (ty:=ty) (pos:=pos) (after:=after) (guard:=guard) hT hx hi (az h) (by rw[←hl];exact mW h) m φ a w hs he
 refine⟨v,?_,h2⟩
 simp only[RA,RD] at h1⊢
 obtain⟨b,off,g1,g2⟩:=h1
 refine⟨b,off,g1,?_⟩
 obtain⟨r,hr⟩:=fS hR tab i.toNat z (fP h)
 rw[hr] at g2
 have:=ml k g2
 rwa [←hR z,List.take_left' rfl] at this
end
end Go.Sk
namespace Go.Sk
open Go.RowKit (Below)
theorem SR.window{m:List Cz}{φ:Nat→Nat}{st st0:List AO}{w:World}{js:List Nat}(hs:SR m φ st w)(hj:js.Nodup)(hwin:iT js st (st0.map (AO.ren js)))(hlt:da js.length st0=true):
  Win js m (js.map λj=>m.getD j (.blk 0))∧SR (js.map λj=>m.getD j (.blk 0)) φ st0 w:=by
 obtain⟨hlen,hget⟩:=e8 hwin
 rw[List.length_map] at hlen
 generalize hm0':(js.map λj=>m.getD j (.blk 0))=m0
 have hW:Win js m m0:=λi j hij=>by
  have hjl:=(hget i j hij).2
  have hjm:j<m.length:=by rw[hs.len];exact hjl
  simp only[←hm0',List.getElem?_map,hij,Option.map_some,List.getD_eq_getElem?_getD,geG hjm,Option.getD_some]
 have hm0:m0.length=js.length:=by simp[←hm0']
 have hs0:SR m0 φ st0 w:=by
  refine⟨by rw[hm0,hlen],λi o c h1 h2=>?_,hs.lt,λi j o o' c c' b h1 h2 l1 l2 h3 h4 h5 h6=>?_,hs.gl,λb ⟨i,c,h,h2⟩=>?_⟩
  rotate_right
  ·have hi:i<js.length:=by rw[←hm0];exact(giS.1 h).1
   have h8:=hW i _ (geG hi)
   rw[h] at h8
   exact hs.nb b ⟨_,c,h8.symm,h2⟩
  ·have hi:i<js.length:=by rw[←hlen];exact(giS.1 h1).1
   have hji:=geG hi
   have h7:=(hget i _ hji).1
   rw[List.getElem?_map,h1,Option.map_some] at h7
   have h8:=hW i _ hji
   rw[h2] at h8
   exact(OR.ren hW (cv hlt h1)).1 (hs.obj _ _ _ h7 h8.symm)
  ·have hi:i<js.length:=by rw[←hlen];exact(giS.1 h1).1
   have hi':j<js.length:=by rw[←hlen];exact(giS.1 h2).1
   have hji:=geG hi
   have hji':=geG hi'
   have h7:=(hget i _ hji).1
   have h7':=(hget j _ hji').1
   rw[List.getElem?_map,h1,Option.map_some] at h7
   rw[List.getElem?_map,h2,Option.map_some] at h7'
   have h8:=hW i _ hji
   have h8':=hW j _ hji'
   rw[h3] at h8
   rw[h4] at h8'
   have:=hs.inj _ _ _ _ _ _ b h7 h7' (by rw[bC];exact l1) (by rw[bC];exact l2) h8.symm h8'.symm h5 h6
   exact(List.getElem?_inj hi hj).1 (by rw[hji,hji',this])
 exact⟨hW,hs0⟩
section
variable{P:Program}{e:En}{ops:Array Oper}{l rest:List Oper}{o:Oper}{env:Env}{st:List AO}{R:Env→List AO→Prop}{RP:List PanicEntry→Env→List AO→Prop}{d:Nat}{k:Ko}
end
section
variable{P:Program}{e:En}{fn:Func}{env:Env}{st:List AO}{k:Nat}
end
section
variable{P:Program}{e:En}{fn:Func}{env:Env}{st:List AO}{k:Nat}
end
inductive Rs(α:Type) where
 |ok(a:α)
 |bad(e:Int)
def Rs.cs{α β:Type}:Rs α→(Int→β)→(α→β)→β
 | .bad e,f,_=>f e
 | .ok a,_,g=>g a
abbrev dfr(f:FuncId)(vs:List Value):Deferred:={ target:= .fn (.func f) ⟨vs⟩,args:= #[] }
def DSp(P:Program)(f:FuncId)(caps:List AV)(st:List AO)(u u':FrameMode)(st':List AO):Prop:=
 il P f∧∀m φ w vs,SR m φ st w→RAs m φ w caps vs→CallsDIn (EF none) 0 P f ⟨vs⟩ u w λen u2 w'=>(∃v,en= .returned v)∧u2=u'∧∃m' φ',Ev m φ w m' φ' w'∧SR m' φ' st' w'
section
variable{P:Program}{fn:Func}{env:Env}{st st':List AO}{f:FuncId}{caps:List AV}
theorem o3{R:Ending→World→Prop}{tmps:Array Value}{m φ w}{vs:List Value}{u u':FrameMode}(hu:u≠ .run)(hD:DSp P f caps st u u' st')(hs:SR m φ st w)(hcap:RAs m φ w caps vs)(hset:settle u'= .returning)
  (h:∀m' φ' w',Ev m φ w m' φ' w'→SR m' φ' st' w'→∃v,(results fn tmps).run P w'= .ok v w'∧R (.returned v) w'):LeavesInM (EF none) 0 P fn tmps R [dfr f vs] u w:=by
 obtain⟨⟨fu,c1,c2,c3⟩,hD⟩:=hD
 refine⟨hu, .inr ⟨λhx=>by simp[EF] at hx,_,_,f,⟨vs⟩,rfl,?_,λ_ _=>trivial,(hD m φ w vs hs hcap).mono ?_⟩⟩
 ·simp only[invoke,callFunc,Sem.run_bind,run_program,Result.andThen_ok,c1,c2,Bool.false_eq_true,ite_false,c3,Sem.run_pure]
  simp
 ·rintro en u2 w' ⟨⟨v,rfl⟩,rfl,m',φ',hev,hsr⟩
  show LeavesInM (EF none) 0 P fn tmps R [] (settle u2) w'
  rw[hset]
  exact h m' φ' w' hev hsr
theorem oP{Q:AV→List AO→Prop}{m0 φ0 w0 n}{vs:List Value}{r:AV}(hcap:RAs m0 φ0 w0 caps vs)(hD:DSp P f caps st .returning .returning st')(hr:Res P fn env st' r)(hQ:Q r st'):
  WE P ⟨m0,φ0,w0,n,none,some [dfr f vs]⟩ .ret (.fin fn Q) env st:=λm φ a w hi=>by
 have hd:a.defers=[dfr f vs]:=hi.df
 show LeavesInM (EF none) 0 P fn a.tmps _ a.defers .returning w
 rw[hd]
 refine o3 sM hD hi.sr (RAs.mono hi.ev.pre hi.ev.fz _ _ hcap) rfl λm' φ' w' hev hsr=>?_
 obtain⟨v,h1,h2⟩:=hr m' φ' a w' hsr (hi.env.mono hev.pre hev.fz)
 exact⟨v,h1,v,r,st',m',φ',rfl,hQ,hi.ev.trans hev,hsr,h2⟩
end
theorem m8{P:Program}{f:FuncId}{fn:Func}{c:Code}{asz:List AV}{st:List AO}{Q:AV→List AO→Prop}{n:Nat}(hf:P.funcs[f]? =some fn)(hname:(fn.name== "runtime.NumGoroutine")=false)
  (hb:fn.body=some c)(hn:fn.ntmps=n)(hle:Nat.ble asz.length n=true)(h:∀m φ w,m.length=st.length→WC P ⟨m,φ,w,n,none,some []⟩ c (.fin fn Q) (bq 0 asz) st):Ctr P f asz st Q:=by
 refine⟨⟨fn,hf,hname,by simp[hb]⟩,λm φ w vs hs ha=>gZ (n:=0) (callsIn_of_wp_marks hf hb trivial ?_)⟩
 have hlen:=aj ha
 refine h m φ w hs.len m φ _ w ⟨hs,Ev.refl m φ w,⟨λt x hx=>?_,hs.gl⟩,?_,rfl⟩
 ·rw[cS] at hx
  simp only[Nat.zero_le,if_true,Nat.sub_zero] at hx
  obtain⟨v,h1,h2⟩:=aW ha hx
  refine⟨v,?_,h2⟩
  have hlt:t<vs.length:=by
   rcases Nat.lt_or_ge t vs.length with h'|h'
   ·exact h'
   ·simp[List.getElem?_eq_none h'] at h1
  rw[Array.getElem?_append_left (by simpa using hlt)]
  simpa using h1
 ·have:=nbT hle
  simp[hn];omega
def Ko.plain:Ko→Bool
 | .fin _ _=>true
 | .seq _ k=>k.plain
 |_=>false
theorem eR{P:Program}{e e':En}(hrd:e'.rd=e.rd)(hev:Ev e.m e.φ e.w e'.m e'.φ e'.w):∀(k:Ko),k.plain=true→∀(x:Exit)(a:Act)(w:World),k.den P e' x a w→k.den P e x a w
 | .fin fn Q,_,x,a,w,h=>by
  have hm:∀en w,bp e' Q en w→bp e Q en w:=λen w ⟨v,r,st,m,φ,h1,h2,h3,h4,h5⟩=>⟨v,r,st,m,φ,h1,h2,hev.trans h3,h4,h5⟩
  unfold Ko.den at h⊢
  rw[hrd] at h
  cases x with
  |normal=>exact LeavesInM.mono hm _ _ _ h
  |ret=>exact LeavesInM.mono hm _ _ _ h
  |panic c=>exact LeavesInM.mono hm _ _ _ h
  |outgrown=>exact hm _ _ h
  |_=>exact h.elim
 | .seq c k,hp,x,a,w,h=>by
  have ih:=eR (P:=P) hrd hev k hp
  unfold Ko.den at h⊢
  cases x with
  |normal=>rw[hrd] at h;exact wpIn_mono h ih
  |_=>exact ih _ _ _ h
theorem iR{r:Option Nat}{P:Program}{ops:Array Oper}{Q Q':Exit→Act→World→Prop}{l2:List Oper}(hn2:∀a w,Q .normal a w→wpListIn (EF r) 0 P ops Q' l2 a w)(hq:∀x a w,x≠ .normal→Q x a w→Q' x a w):
  ∀(l:List Oper),av l=true→∀(a:Act)(w:World),cA P ops Q l a w→wpListIn (EF r) 0 P ops Q' (l++l2) a w
 |[],_,a,w,h=>hn2 a w h
 |o::l,hn,a,w,h=>by
  have hd:=cx (l:=o::l) (i:=0) (o:=o) hn rfl
  have ih:=iR (r:=r) hn2 hq l (by simp only[av,Bool.and_eq_true] at hn;exact hn.2)
  rw[List.cons_append]
  unfold cA at h
  unfold wpListIn
  split
  ·rename_i hw
   rw[if_pos hw] at h
   rcases h with h|h
   ·refine dH hd ?_
    unfold Oper.wp at h⊢
    generalize(execOp a.eval o).run P w=x at h⊢
    cases x with
    |ok nx w'=>
     cases nx with
     |value v=>exact ih _ _ h
     |skip=>exact ih _ _ h
     |defer d=>exact ih _ _ h
     |enter f args=>
      refine Calls.mono h ?_
      intro en w'' he
      cases en with
      |returned v=>exact ih _ _ he
      |panicked c=>exact hq _ _ _ sM he
      |outgrown=>obtain⟨a0,w0,h0⟩:=he;exact⟨a0,w0,hq _ _ _ sM h0⟩
     |row rw args=>exact λc cs=>let ⟨v,w2,h1,h2⟩:=h c cs;⟨v,w2,ih _ _ h1,h2⟩
     |_=>exact h.elim
    |halt hh w'=>cases hh<;>first|exact hq _ _ _ sM h|exact h.elim
   ·refine d4 hd ?_
    obtain⟨l',f,tmps,asg,body,w',h1,h2⟩:=h
    exact⟨l',f,tmps,asg,body,w',h1,h2.mono λen w'' ⟨v,e1,e2⟩=>⟨v,e1,ih _ _ e2⟩⟩
  ·rename_i hw
   rw[if_neg hw] at h
   exact⟨λ_ _=>trivial,ih _ _ h⟩
theorem pW{P:Program}{k:Ko}{env:Env}{st:List AO}{id:Nat}{l:List Oper}{x:Operand}{f:FuncId}{caps:List AV}{ty:TypeId}{pos:String}{after:Array Edge}{m0 φ0 w0 n}{xs:List Oper}
  (hxs:xs=l++ [⟨none, .defer ⟨.value x, #[], #[]⟩,ty,pos,after,none⟩])(hk:k.plain=true)(hnd:av l=true)
  (h:WL P ⟨m0,φ0,w0,n,none,some []⟩ xs.toArray l env st λenv' st'=>opv env' x=some (.fn (.func f) [] caps)∧∀m φ w vs,m.length=st'.length→RAs m φ w caps vs→WE P ⟨m,φ,w,n,none,some [dfr f vs]⟩ .normal k env' st'):
  WC P ⟨m0,φ0,w0,n,none,some []⟩ (.region id xs.toArray false) k env st:=λm φ a w hi=>by
 refine wpIn_region_lit ?_
 subst hxs
 refine iR (Q:=kp _ _) ?_ (λx a w hx ⟨h1,_⟩=>absurd h1 hx) l hnd a w (h m φ a w hi)
 rintro a' w' ⟨_,env',st',m',φ',⟨hx,hE⟩,hi'⟩
 have hv:=af hi'.env hx
 simp only[RA] at hv
 obtain⟨fs,cs,h1,h2,h3⟩:=hv
 simp only[RAs] at h2
 subst h2
 have hd:a'.defers=[]:=hi'.df
 have hrun:(execOp a'.eval (⟨none, .defer ⟨.value x, #[], #[]⟩,ty,pos,after,none⟩:Oper)).run P w'= .ok (.defer (dfr f cs)) w':=by
  simp[execOp,resolve,h1,Deferred.ofValue]
 unfold wpListIn
 rw[if_pos (by simp[Region.wanted])]
 refine⟨λ_ _=>trivial,?_⟩
 show Oper.uponIn _ _ _ _ _ _ _ ((execOp a'.eval (⟨none, .defer ⟨.value x, #[], #[]⟩,ty,pos,after,none⟩:Oper)).run P w')
 rw[hrun]
 show Ko.den P ⟨m0,φ0,w0,n,none,some []⟩ k .normal _ w'
 refine eR (e:=⟨m0,φ0,w0,n,none,some []⟩) (e':=⟨m',φ',w',n,none,some [dfr f cs]⟩) rfl hi'.ev k hk .normal _ _ (hE m' φ' w' cs hi'.sr.len h3 m' φ' _ w' ⟨hi'.sr,Ev.refl _ _ _,⟨hi'.env.get,hi'.env.gl⟩,hi'.sz,?_⟩)
 show dfr f cs::a'.defers=[dfr f cs]
 rw[hd]
end Go.Sk
namespace Go.Sk
open Go.RowKit (Below)
section
variable{P:Program}{e:En}{l:List Oper}{rs:List AV}{base:Env}{sts:Nat→List AO}{es:List Nat}
end
end Go.Sk
namespace Go.Sk
open Go.RowKit (Below)
section
variable{P:Program}{e:En}{ops:Array Oper}{l rest:List Oper}{K:Ko}{env:Env}{st:List AO}{R:Env→List AO→Prop}{dst:Option Tmp}{ty:TypeId}{pos:String}{after:Array Edge}{guard:Option (Nat×Bool)}
theorem uM{x:Operand}{id off:Nat}{T T' E:TypeId}(hT:P.underlying T=some (.pointer E))(hx:opv env x=some (.pt id off)):Yields P env st ⟨dst, .binOp .eql T x (.const (.pointer none)) T',ty,pos,after,guard⟩ (.d (.v (.bool false))):=λm φ a w _ he=>by
 have h:=af he hx
 simp only[RA] at h
 obtain⟨b,_,h2⟩:=h
 refine⟨_,RAv,λw' _=>?_⟩
 have hp:P.pointee T=E:=by simp[Program.pointee,hT]
 have hc:a.eval (.const (.pointer none))= .pointer none:=rfl
 simp[execOp,h2,hc,eqGuard,binOp,run_equal_pointer_nil w' T _ (by rw[hp];exact hT)]
theorem uH{x:Operand}{id off:Nat}{T T' E:TypeId}(hT:P.underlying T=some (.pointer E))(hx:opv env x=some (.pt id off)):Yields P env st ⟨dst, .binOp .neq T x (.const (.pointer none)) T',ty,pos,after,guard⟩ (.d (.v (.bool true))):=λm φ a w _ he=>by
 have h:=af he hx
 simp only[RA] at h
 obtain⟨b,_,h2⟩:=h
 refine⟨_,RAv,λw' _=>?_⟩
 have hp:P.pointee T=E:=by simp[Program.pointee,hT]
 have hc:a.eval (.const (.pointer none))= .pointer none:=rfl
 simp[execOp,h2,hc,eqGuard,binOp,run_equal_pointer_nil w' T _ (by rw[hp];exact hT)]
theorem mO{m φ a w}{x:Operand}{id ver off T k:Nat}{es:List (List AV)}(hs:SR m φ st w)(he:EnvOk m φ w env a)(hx:opv env x=some (.pe id ver off))(hi:st[id]? =some (.os T k ver es)):∃p,a.eval x= .pointer (some p):=by
 have h:=af he hx
 simp only[RA] at h
 obtain⟨v0,y0,h1,_,h3⟩:=h
 obtain⟨y,xs,h4,_⟩:=hs.obj _ _ _ hi h1
 simp only[Cz.tok.injEq] at h4
 obtain⟨b,_,_,_,h5⟩:=h3 h4.1.symm
 exact⟨_,h5⟩
theorem uN{x:Operand}{id ver off k:Nat}{Te:Nat}{es:List (List AV)}{T T' E:TypeId}(hT:P.underlying T=some (.pointer E))(hx:opv env x=some (.pe id ver off))(hi:st[id]? =some (.os Te k ver es)):Yields P env st ⟨dst, .binOp .eql T x (.const (.pointer none)) T',ty,pos,after,guard⟩ (.d (.v (.bool false))):=λm φ a w hs he=>by
 obtain⟨p,h2⟩:=mO hs he hx hi
 refine⟨_,RAv,λw' _=>?_⟩
 have hp:P.pointee T=E:=by simp[Program.pointee,hT]
 have hc:a.eval (.const (.pointer none))= .pointer none:=rfl
 simp[execOp,h2,hc,eqGuard,binOp,run_equal_pointer_nil w' T _ (by rw[hp];exact hT)]
theorem uI{x:Operand}{id ver off k:Nat}{Te:Nat}{es:List (List AV)}{T T' E:TypeId}(hT:P.underlying T=some (.pointer E))(hx:opv env x=some (.pe id ver off))(hi:st[id]? =some (.os Te k ver es)):Yields P env st ⟨dst, .binOp .neq T x (.const (.pointer none)) T',ty,pos,after,guard⟩ (.d (.v (.bool true))):=λm φ a w hs he=>by
 obtain⟨p,h2⟩:=mO hs he hx hi
 refine⟨_,RAv,λw' _=>?_⟩
 have hp:P.pointee T=E:=by simp[Program.pointee,hT]
 have hc:a.eval (.const (.pointer none))= .pointer none:=rfl
 simp[execOp,h2,hc,eqGuard,binOp,run_equal_pointer_nil w' T _ (by rw[hp];exact hT)]
theorem uO{x:Operand}{T T' E:TypeId}(hT:P.underlying T=some (.pointer E))(hx:opv env x=some (.d (.v (.pointer none)))):Yields P env st ⟨dst, .binOp .eql T x (.const (.pointer none)) T',ty,pos,after,guard⟩ (.d (.v (.bool true))):=λm φ a w _ he=>by
 have h:=af he hx
 simp only[RA,RD] at h
 refine⟨_,RAv,λw' _=>?_⟩
 have hp:P.pointee T=E:=by simp[Program.pointee,hT]
 have hc:a.eval (.const (.pointer none))= .pointer none:=rfl
 simp[execOp,h,hc,eqGuard,binOp,run_equal_pointer_nil w' T none (by rw[hp];exact hT)]
theorem uJ{x:Operand}{T T' E:TypeId}(hT:P.underlying T=some (.pointer E))(hx:opv env x=some (.d (.v (.pointer none)))):Yields P env st ⟨dst, .binOp .neq T x (.const (.pointer none)) T',ty,pos,after,guard⟩ (.d (.v (.bool false))):=λm φ a w _ he=>by
 have h:=af he hx
 simp only[RA,RD] at h
 refine⟨_,RAv,λw' _=>?_⟩
 have hp:P.pointee T=E:=by simp[Program.pointee,hT]
 have hc:a.eval (.const (.pointer none))= .pointer none:=rfl
 simp[execOp,h,hc,eqGuard,binOp,run_equal_pointer_nil w' T none (by rw[hp];exact hT)]
end
end Go.Sk
namespace Go.Sk
open Go.RowKit (Below)
section
variable{P:Program}{e:En}{ops:Array Oper}{l rest:List Oper}{K:Ko}{env:Env}{st:List AO}{R:Env→List AO→Prop}{dst:Option Tmp}{ty:TypeId}{pos:String}{after:Array Edge}{guard:Option (Nat×Bool)}
end
end Go.Sk
namespace Go.Sk
open Go.RowKit (Below)
section
variable{P:Program}{env:Env}{st:List AO}{dst:Option Tmp}{ty:TypeId}{pos:String}{after:Array Edge}{guard:Option (Nat×Bool)}
theorem rT{x:Operand}{T T':TypeId}(hT:P.underlying T=some (.interface (P.methodsAt T)))(hx:opv env x=some (.d (.v .nilIface))):Yields P env st ⟨dst, .binOp .eql T x (.const .nilIface) T',ty,pos,after,guard⟩ (.d (.v (.bool true))):=λm φ a w _ he=>by
 have h:=af he hx
 simp only[RA,RD] at h
 refine⟨_,RAv,λw' _=>?_⟩
 have hc:a.eval (.const .nilIface)= .nilIface:=rfl
 simp[execOp,h,hc,eqGuard,binOp,run_equal_nil_nil w' T hT]
def p8(P:Program)(t:TypeId):Bool:=match P.underlying t with
 |some (.interface _)=>false
 |some _=>true
 |none=>false
end
theorem pb{P:Program}{f:FuncId}{fn:Func}{rest:Code}{id d n:Nat}{ty:TypeId}{pos:String}{after:Array Edge}{caps:List AV}{st st':List AO}{v:Value}{va:AV}{u u':FrameMode}(hf:P.funcs[f]? =some fn)(hname:(fn.name== "runtime.NumGoroutine")=false)
  (hb:fn.body=some (.seq (.region id #[⟨some d, .call ⟨.builtin .recover, #[], #[]⟩,ty,pos,after,none⟩] false) rest))(hres:fn.results= #[])(hn:fn.ntmps=n)(hle:Nat.ble caps.length n=true)(hd:Nat.ble (d+1) n=true)
  (hu:∀(c0:Frame)(cs:List Frame),c0.mode=u→(∃cs',recoverD (c0::cs)=some (v,cs')∧cs'={ c0 with mode:=u' }::cs)∨(recoverD (c0::cs)=none∧v= .nilIface∧u'=u))
  (hva:∀m φ w,RA m φ w va v)
  (h:∀m φ w,m.length=st.length→WC P ⟨m,φ,w,n,none,some []⟩ rest (.lp (λ_ st2=>SLe st2 st') (.rend λ_ _=>False)) ((d,va)::bq 0 caps) st):DSp P f caps st u u' st':=by
 refine⟨⟨fn,hf,hname,by simp[hb]⟩,λm φ w vs hs ha=>callsDIn_of_wpSIn hf hb trivial λc0 cs hu0=>?_⟩
 have hlen:=aj ha
 have hle:=nbT hle
 have hd:=nbT hd
 refine wpSIn_seq (wpSIn_region ?_)
 generalize hR:bodyPostS P fn c0 cs _=R
 have key:∀cs',cs'={ c0 with mode:=u' }::cs→rest.wpSIn (EF none) 0 P R (({ tmps:=(⟨vs⟩:Array Value)++Array.replicate (fn.ntmps - (⟨vs⟩:Array Value).size) undef,defers:=[] }:Act).put (some d) v) cs' w:=by
  intro cs' hcs
  refine wpSIn_of_wpIn rfl ?_
  have hinv:Inv ⟨m,φ,w,n,none,some []⟩ m φ ((d,va)::bq 0 caps) st (({ tmps:=(⟨vs⟩:Array Value)++Array.replicate (fn.ntmps - (⟨vs⟩:Array Value).size) undef,defers:=[] }:Act).put (some d) v) w:=by
   refine Inv.put (e:=⟨m,φ,w,n,none,some []⟩) ⟨hs,Ev.refl m φ w,⟨λt x hx=>?_,hs.gl⟩,?_,rfl⟩ hd (hva m φ w)
   ·rw[cS] at hx
    simp only[Nat.zero_le,if_true,Nat.sub_zero] at hx
    obtain⟨y,h1,h2⟩:=aW ha hx
    refine⟨y,?_,h2⟩
    have hlt:t<vs.length:=by
     rcases Nat.lt_or_ge t vs.length with h'|h'
     ·exact h'
     ·simp[List.getElem?_eq_none h'] at h1
    rw[Array.getElem?_append_left (by simpa using hlt)]
    simpa using h1
   ·simp[hn];omega
  refine wpIn_mono (h m φ w hs.len m φ _ w hinv) λx a' w' hx=>?_
  subst hR
  cases x with
  |normal=>
   obtain⟨env2,st2,m2,φ2,hst2,hi2⟩:=hx
   refine⟨hi2.df,u',hcs, .tuple #[],results_none hres _ _ _,⟨_,rfl⟩,rfl,m2,φ2,hi2.ev,hi2.sr.weak hst2⟩
  |_=>exact hx.elim
 have hexec:∀a:Act,(execOp a.eval (⟨some d, .call ⟨.builtin .recover, #[], #[]⟩,ty,pos,after,none⟩:Oper)).run P w= .ok .recover w:=λa=>by
  simp[execOp,resolve,invoke,builtin]
 show wpOpsSIn (EF none) 0 P _ _ [0] _ _ w
 unfold wpOpsSIn
 simp only[List.getElem?_toArray,List.getElem?_cons_zero]
 refine⟨λ_ _=>trivial,?_⟩
 rw[if_pos (by simp[Region.wanted]),hexec]
 rcases hu c0 cs hu0 with⟨cs',h1,h2⟩|⟨h1,h2,h3⟩
 ·simp only[h1]
  unfold wpOpsSIn
  exact key cs' h2
 ·simp only[h1]
  unfold wpOpsSIn
  subst h2
  refine key _ ?_
  subst h3
  rw[←hu0]
section
variable{P:Program}{fn:Func}{env:Env}{st st':List AO}{f:FuncId}{caps:List AV}{k:Nat}
end
end Go.Sk
namespace Go.Sk
open Go.RowKit (Below)
section
variable{P:Program}{e:En}{ops:Array Oper}{rest:List Oper}{env:Env}{st:List AO}{R:Env→List AO→Prop}{ty:TypeId}{pos:String}{after:Array Edge}{guard:Option (Nat×Bool)}
theorem jL{T T' E d:Nat}{x:Operand}{m φ a w}(hT:P.underlying T=some (.slice E))(hi:Inv e m φ env st a w){ad:Option Addr}{ll cc:Nat}(h2:a.eval x= .slice ad ll cc)
  (hw:Wt ops env ⟨some d, .binOp .eql T x (.const (.slice none 0 0)) T',ty,pos,after,guard⟩ true)(hd:Nat.ble (d+1) e.n=true)(h:WL P e ops rest ((d, .d (.v (.bool ad.isNone)))::env) st R):
  cA P ops (kp e R) (⟨some d, .binOp .eql T x (.const (.slice none 0 0)) T',ty,pos,after,guard⟩::rest) a w:=by
 unfold cA
 rw[if_pos (hw _ _ _ _ hi.env)]
 refine .inl ?_
 have hrun:(execOp a.eval ⟨some d, .binOp .eql T x (.const (.slice none 0 0)) T',ty,pos,after,guard⟩).run P w= .ok (.value (.bool ad.isNone)) w:=by
  have hc:a.eval (.const (.slice none 0 0))= .slice none 0 0:=rfl
  simp[execOp,h2,hc,eqGuard,binOp,run_equal_slice_nil w T E ad ll cc hT]
 simp only[Oper.wp,hrun,Oper.upon]
 exact h m φ _ w (hi.put (nbT hd) RAv)
end
end Go.Sk
namespace Go.Sk
open Go.RowKit (Below)
def Cz.rv(t:Nat):Cz→Cz
 | .tok _ y=> .tok t y
 | .fam _ ys=> .fam t ys
 |c=>c
mutual
def AV.rv(cur T:Nat→Nat):AV→AV
 | .d x=> .d x
 | .pt i o=> .pt i o
 | .os i v=>bif Nat.beq v (cur i) then .os i (T i) else .u
 | .osf i j v=>bif Nat.beq v (cur i) then .osf i j (T i) else .u
 | .tu l=> .tu (AV.rvs cur T l)
 |_=> .u
def AV.rvs(cur T:Nat→Nat):List AV→List AV
 |[]=> []
 |x::l=>AV.rv cur T x::AV.rvs cur T l
end
def AO.rv(cur T:Nat→Nat)(i:Nat):AO→AO
 | .row t cs=> .row t (cs.map (AV.rv cur T))
 | .os t k _ es=> .os t k (T i) (es.map λe=>e.map (AV.rv cur T))
 | .fam t k _ ess=> .fam t k (T i) (ess.map λes=>es.map λe=>e.map (AV.rv cur T))
 | .rsv=> .rsv
 |_=> .dead
section
variable{m m3:List Cz}{φ:Nat→Nat}{w:World}{cur T:Nat→Nat}
end
end Go.Sk
namespace Go.Sk
variable{P:Program}{e:En}{env:Env}{st:List AO}{K:Ko}
theorem rU{k:Ko}{x:Code}(J:Env→List AO→Prop)(h1:WC P e x (.lp J k) env st)(h2:∀env' st',J env' st'→WE P e .normal k env' st'):WC P e x k env st:=λm φ a w hi=>by
 refine wpIn_mono (h1 m φ a w hi) ?_
 intro ex a' w' hq
 cases ex with
 |normal=>
  obtain⟨env',st',m',φ',hJ,hi'⟩:=hq
  exact h2 env' st' hJ m' φ' a' w' hi'
 |_=>exact hq
end Go.Sk
namespace Go.Sk
open Go.RowKit (Below)
section
variable{P:Program}{env:Env}{st:List AO}{dst:Option Tmp}{ty:TypeId}{pos:String}{after:Array Edge}{guard:Option (Nat×Bool)}
end
end Go.Sk
namespace Go.Sk
open Go.RowKit (Below)
theorem ed{m φ w st k}(hs:SR m φ st w):∀{xs:List AV}{vs:List Value},RAs m φ w xs vs→(xs.all λx=>x.okS st&&Nat.beq x.cells.length k)=true→(∀v∈vs,v.cells.size=k)∧RAs m φ w (xs.map AV.cells).flatten (vs.map (·.cells.toList)).flatten
 |[],vs,h,_=>by simp only[RAs] at h;subst h;simp[RAs]
 |x::xs,vs,h,hk=>by
  simp only[RAs] at h
  obtain⟨c,cs,rfl,h2,h3⟩:=h
  simp only[List.all_cons,Bool.and_eq_true] at hk
  obtain⟨⟨k1,k2⟩,k3⟩:=hk
  have k2:=nbE k2
  obtain⟨us,g1,g2⟩:=dy hs h2 k1
  obtain⟨i1,i2⟩:=ed hs h3 k3
  have hl:=aj g2
  refine⟨λv hv=>?_,?_⟩
  ·rcases List.mem_cons.1 hv with rfl|hv
   ·rw[g1];simp;omega
   ·exact i1 v hv
  ·simp only[List.map_cons,List.flatten_cons,g1]
   exact ak g2 i2
section
variable{P:Program}{env:Env}{st:List AO}{dst:Option Tmp}{ty:TypeId}{pos:String}{after:Array Edge}{guard:Option (Nat×Bool)}
theorem eL{T e k by_ len:Nat}{zs:List Value}{parts:Array (Nat×Operand)}{xs:List AV}(hT:bW P T=some (e,k,by_))(hz:ao P e=some zs)(hzl:zs.length=k)(hlen:len*k≤16777216)(h0:0<len*k)(hidx:parts.toList.map (·.1)=List.range len)
  (hx:aX env (parts.toList.map (·.2))=some xs)(hok:(xs.all λx=>x.okS st&&Nat.beq x.cells.length k)=true)(hm:len≤maxLen):
  NewOs P env st ⟨dst, .buildSlice T len parts,ty,pos,after,guard⟩ e k (xs.map AV.cells):=λm φ a w hs he=>by
 obtain⟨i,ht,hi,rfl,rfl⟩:=ck hT
 obtain⟨z,hz1,hz2⟩:=bS hz hi
 have hpl:parts.toList.length=len:=by have:=congrArg List.length hidx;simpa using this
 have hxl:xs.length=len:=by have:=bV hx;simp at this hpl;omega
 have h1:=dY he hx
 obtain⟨c1,c2⟩:=ed hs h1 hok
 let vss:List Value:=(parts.toList.map λ(j,x)=>(j,a.eval x)).map (·.2)
 have hvl:vss.length=len:=by simp[vss];simpa using hpl
 let cells0:Array Value:=(Array.range (len*i.size)).map (z.cells[·%z.cells.size]!)
 have hc0:cells0.size=len*i.size:=by simp[cells0]
 have hfill:Instr.fill (λj=>some (j*i.size,i.size)) cells0 (parts.toList.map λ(j,x)=>(j,a.eval x))=some (vss.map (·.cells.toList)).flatten.toArray:=by
  have e:=dQ (_β:=Unit) parts.toList a.eval (by rw[hidx,hpl])
  rw[e]
  have e3:(parts.toList.map λp=>a.eval p.2)=vss:=by simp[vss]
  rw[e3,iX vss 0 cells0 c1 (by rw[hc0,hvl];simp)]
  simp[hvl,List.drop_of_length_le,hc0]
 have hn:¬(16777216<len*i.size):=oM
 have h00:¬(len*i.size=0):=oM
 have hpe:parts.map (λ(j,x)=>(j,a.eval x))=(parts.toList.map λ(j,x)=>(j,a.eval x)).toArray:=by
  apply Array.toList_inj.mp;simp
 have hrun:(execOp a.eval ⟨dst, .buildSlice T len parts,ty,pos,after,guard⟩).run P w= .ok (.value (.slice (some ⟨w.heap.size,0,none⟩) len len)) (w.alloc (.cells (vss.map (·.cells.toList)).flatten.toArray e)):=by
  have hz':(zeroValue e).run P w= .ok z w:=by simp[zeroValue,typeInfo,hi,hz1]
  have hso:(sizeOf e).run P w= .ok i.size w:=by simp[sizeOf,typeInfo,hi]
  simp only[execOp,Instr.buildSlice,Sem.run_bind,run_underlying ht,Result.andThen_ok,hso,gt_iff_lt,show(2:Nat)^24=16777216 from rfl,if_neg hn,Sem.run_pure,if_neg h00,hz',hpe]
  have hfill':Instr.fill (λj=>some (j*i.size,i.size)) (Array.map (λx=>z.cells[x%z.cells.size]!) (Array.range (len*i.size))) (parts.toList.map λx=>(x.1,a.eval x.2))=some (vss.map (·.cells.toList)).flatten.toArray:=hfill
  rw[hfill']
  simp[newRow]
 obtain⟨k1,k2,k3⟩:Ev m φ w (m++ [.tok 0 (.slice (some ⟨w.heap.size,0,none⟩) len len)]) φ (w.alloc (.cells (vss.map (·.cells.toList)).flatten.toArray e))∧SR (m++ [.tok 0 (.slice (some ⟨w.heap.size,0,none⟩) len len)]) φ (st++ [.os e i.size 0 (xs.map AV.cells)]) (w.alloc (.cells (vss.map (·.cells.toList)).flatten.toArray e))∧True:=by
  have hF:=Fz.alloc hs (.cells (vss.map (·.cells.toList)).flatten.toArray e)
  have hk:∀b,b<w.heap.size→(w.alloc (.cells (vss.map (·.cells.toList)).flatten.toArray e)).heap[b]? =w.heap[b]? :=λb hb=>aw hb
  have hnew:∀b,(Cz.tok 0 (.slice (some ⟨w.heap.size,0,none⟩) len len)).has b→w.heap.size≤b:=λb hb=>by simp only[Cz.has,Value.ownBlock,aa] at hb;omega
  have hlen2:(vss.map (·.cells.toList)).flatten.length=len*i.size:=by
   have:=aj c2
   have h2:∀l:List AV,(l.all λx=>x.okS st&&Nat.beq x.cells.length i.size)=true→(l.map AV.cells).flatten.length=l.length*i.size:=by
    intro l
    induction l with
    |nil=>simp
    |cons x l ih=>
     intro h
     simp only[List.all_cons,Bool.and_eq_true] at h
     have:=nbE h.1.2
     simp only[List.map_cons,List.flatten_cons,List.length_append,List.length_cons,ih h.2,Nat.succ_mul];omega
   rw[h2 xs hok,hxl] at this
   exact this
  refine⟨Ev.push hs hF hk sM rfl rfl rfl hnew,SR.push hs hF hk sM ?_ hnew,trivial⟩
  refine⟨_,(vss.map (·.cells.toList)).flatten,rfl,⟨by rw[hlen2];simp[hxl], .inr ⟨w.heap.size,len,_,by simp[hxl],Nat.zero_le _,heap_alloc_new w _,by simp[hxl],hm,by simpa using hlen2,?_⟩⟩,RAs.mono (Pre.append m _) hF _ _ c2,λf hf=>?_,λb hb=>?_⟩
  ·rw[List.take_of_length_le (by simp only[List.length_map,hxl];simpa using Nat.le_of_eq hlen2)]
  ·obtain⟨x,hx1,rfl⟩:=List.mem_map.1 hf
   have:=List.all_eq_true.1 hok x hx1
   simp only[Bool.and_eq_true] at this
   exact nbE this.2
  ·simp only[Value.ownBlock,aa] at hb
   exact hs.lt b oM
 exact⟨_,_,hrun,k1,k2,(Below.refl _ _).alloc (Nat.le_refl _) _,λb hb=>by simp only[Value.ownBlock,aa] at hb;omega⟩
theorem pg{T _T' e k by_:Nat}{zs:List Value}{s x:Operand}{id ver:Nat}{es fs:List (List AV)}{xr:AV}{c:Call}(hT:bW P T=some (e,k,by_))(hz:ao P e=some zs)(hzl:zs.length=k)(hk:0<k)
  (hc:c=⟨.builtin .append, #[s,x], #[T,T]⟩)(hs:opv env s=some (.os id ver))(hi:st[id]? =some (.os e k ver es))(hx:opv env x=some xr)(hsrc:Src st xr k fs)(hf1:fs.flatten.all (AV.ok1S st)=true)(hfk:∀f∈fs,f.length=k)
  (h63:es.length+fs.length≤maxLen)(hby:(es.length+fs.length)*by_≤140737488355328):
  Does P env st ⟨dst, .call c,ty,pos,after,guard⟩ (.os id (ver+1)) (st.set id (.os e k (ver+1) (es++fs))):=λm φ a w hsr he=>by
 obtain⟨y,xs,g1,g2,g3,g4,g5,g6⟩:=gu hsr he hs hi
 obtain⟨news,n1,n2,n3⟩:=hsrc m φ w _ hsr (af he hx)
 obtain⟨v',w',r1,r2,r3,r4⟩:=hP (P:=P) (ty:=ty) hT hz hzl hk g3 n2 (ge hsr n1 hf1) n3 h63 hby
 have hF:Fz φ w φ w':=λb off cc q1 q2=>⟨q1,by
  have hlt:=bG hsr q1
  have hne:some b≠y.ownBlock:=λe=>by have:=g6 b e.symm;omega
  rw[bv (r3.block b hlt hne)];exact q2⟩
 have hobj:OR (m.set id (.tok (ver+1) v')) φ w' (.os e k (ver+1) (es++fs)) (.tok (ver+1) v'):=by
  have hpre:Pre m (m.set id (.tok (ver+1) v')):=λi d hd=>by
   by_cases hii:i=id
   ·subst hii
    rw[g1] at hd
    simp only[aa] at hd
    subst hd
    exact⟨_,by rw[List.getElem?_set_self (cD g1)],eG _ _ _⟩
   ·exact⟨d,by rw[List.getElem?_set_ne (Ne.symm hii)];exact hd,Cz.le_refl d⟩
  refine⟨v',xs++news,rfl,by rw[List.length_append];exact r2,?_,λf hf=>?_,λb hb=>?_⟩
  ·rw[List.flatten_append];exact ak (RAs.mono hpre hF _ _ g4) (RAs.mono hpre hF _ _ n1)
  ·rcases List.mem_append.1 hf with h|h
   ·exact g5 f h
   ·exact hfk f h
  ·rcases r4 with h|h
   ·exact g6 b (by rw[←h];exact hb)
   ·rw[h] at hb;simp only[aa] at hb;exact hsr.lt b oM
 obtain⟨k1,k2⟩:=eg (o':= .os e k (ver+1) (es++fs)) (c':= .tok (ver+1) v') (φ':=φ) hsr hi rfl g1 (eG _ _ _) r3.os r3.tape r3.output r3.size
  (λb hb hn=>⟨r3.block b hb (λe=>hn (by simp[Cz.has,←e])),rfl⟩) hF (λb hb=>hsr.lt b (Nat.le_trans r3.size hb))
  (λb hb=>by
   rcases r4 with h|h
   ·exact .inl (by simpa[Cz.has,h] using hb)
   ·right;simp only[Cz.has,h,aa] at hb;omega) hobj
 refine⟨v',w',_,φ, .inl ?_,k1,k2,?_⟩
 ·subst hc
  simp[execOp,resolve,invoke,builtin,g2,r1]
 ·simp only[RA]
  exact⟨ver+1,v',by rw[List.getElem?_set_self (cD g1)],Nat.le_refl _,λ_=>rfl⟩
end
section
variable{P:Program}{env:Env}{st:List AO}
end
section
variable{P:Program}{env:Env}{st:List AO}{dst:Option Tmp}{ty:TypeId}{pos:String}{after:Array Edge}{guard:Option (Nat×Bool)}
end
section
variable{e:En}{env:Env}{st:List AO}
end
end Go.Sk
namespace Go.Sk
end Go.Sk
namespace Go.Sk
abbrev AV.n(x:Int):AV:= .d (D.i .i64 x)
abbrev AV.l{α:Type}(E:α→List D)(L:List α):AV:= .d (.sl (L.map E))
theorem q{α:Sort _}{a:α}:a=a:=rfl
abbrev Zt:True:=trivial
abbrev Zs:= @Les.refl
theorem Zp{T:Nat}{l:List AV}:OLe (.row T l) (.row T l):=⟨rfl,Les.refl _⟩
theorem Zf{α β γ δ:Type}{a:α}{b:β}{c:γ}{d:δ}:a=a∧b=b∧c=c∧d=d:=⟨rfl,rfl,rfl,rfl⟩
abbrev Zw:= @Wt.none
theorem Oi{α:Type}{a b:α}(h:some a=some b):a=b:=inS h
abbrev eM{α:Type}(E:α→List D)(L:List α):List (List AV):=L.map (cE E)
abbrev Zl{a:AV}:Le a a:=Le.refl a
abbrev Zn:= @WL.ns
abbrev Zq:= @WL.qn
abbrev Zy:= @WL.qy
end Go.Sk
namespace Go.Sk
inductive NT(α:Type) where
 |lf
 |nd(k:Nat)(v:α)(l r:NT α)
def NT.get{α:Type}:NT α→Nat→Option α
 | .lf,_=>none
 | .nd k v l r,i=>bif Nat.beq i k then some v else bif Nat.blt i k then l.get i else r.get i
def NT.chk{α:Type}(f:Nat→Option α)(eq:α→α→Bool):NT α→Bool
 | .lf=>true
 | .nd k v l r=>(match f k with|some u=>eq u v|none=>false)&&(l.chk f eq&&r.chk f eq)
theorem co{α:Type}{f:Nat→Option α}{eq:α→α→Bool}(he:∀a b,eq a b=true→a=b):∀{t:NT α},t.chk f eq=true→∀{i:Nat}{v:α},t.get i=some v→f i=some v
 | .lf,_,i,v,h=>by cases h
 | .nd k u l r,hc,i,v,h=>by
  simp only[NT.chk,Bool.and_eq_true] at hc
  unfold NT.get at h
  cases hb:Nat.beq i k with
  |true=>
   rw[hb] at h
   obtain rfl:=nbE hb
   obtain rfl:=inS h
   have h1:=hc.1
   cases hf:f i with
   |none=>rw[hf] at h1;cases h1
   |some w=>rw[hf] at h1;rw[he _ _ h1]
  |false=>
   rw[hb] at h
   simp only[cdF] at h
   cases hl:Nat.blt i k with
   |true=>rw[hl] at h;exact co he hc.2.1 h
   |false=>rw[hl] at h;exact co he hc.2.2 h
structure Ty where
 ag:NT Bool
 sz:NT Nat
 fo:NT (Nat×Nat×Bool)
 un:NT IntKind
def unK(P:Program)(T:Nat):Option IntKind:=match P.underlying T with
 |some (.int k)=>some k
 |_=>none
def foEq(a b:Nat×Nat×Bool):Bool:=Nat.beq a.1 b.1&&(Nat.beq a.2.1 b.2.1&&(a.2.2==b.2.2))
def Ty.ok(P:Program)(t:Ty):Bool:=
 t.ag.chk (aq P) (·==·)&&(t.sz.chk (aM P) Nat.beq&&(t.fo.chk (λi=>bH P (i / 64) (i%64)) foEq&&t.un.chk (unK P) (λa b=>decide (a=b))))
def Ty.fo'(t:Ty)(S i:Nat):Option (Nat×Nat×Bool):=bif Nat.blt i 64 then t.fo.get (S*64+i) else none
class Tys(P:Program) where
 t:Ty
 h:t.ok P=true
section
variable{P:Program}{t:Ty}(ht:t.ok P=true)
include ht
theorem gb{T:Nat}{b:Bool}(h:t.ag.get T=some b):aq P T=some b:=by
 simp only[Ty.ok,Bool.and_eq_true] at ht
 exact co (λa b h=>by simpa using h) ht.1 h
theorem mi{T:Nat}{b:Nat}(h:t.sz.get T=some b):aM P T=some b:=by
 simp only[Ty.ok,Bool.and_eq_true] at ht
 exact co (λa b h=>nbE h) ht.2.1 h
theorem dx{S i:Nat}{b:Nat×Nat×Bool}(h:t.fo' S i=some b):bH P S i=some b:=by
 simp only[Ty.ok,Bool.and_eq_true] at ht
 unfold Ty.fo' at h
 cases hb:Nat.blt i 64 with
 |false=>rw[hb] at h;cases h
 |true=>
  rw[hb] at h
  have hlt:i<64:=by have:=nbT hb;omega
  have:=co (λa b h=>by
   simp only[foEq,Bool.and_eq_true] at h
   obtain⟨h1,h2,h3⟩:=h
   obtain⟨a1,a2,a3⟩:=a
   obtain⟨b1,b2,b3⟩:=b
   simp only at h1 h2 h3
   rw[nbE h1,nbE h2,eq_of_beq h3]) ht.2.2.1 h
  have e1:(S*64+i) / 64=S:=oM
  have e2:(S*64+i)%64=i:=oM
  simpa only[e1,e2] using this
theorem mh{T:Nat}{k:IntKind}(h:t.un.get T=some k):P.underlying T=some (.int k):=by
 simp only[Ty.ok,Bool.and_eq_true] at ht
 have:=co (λa b h=>of_decide_eq_true h) ht.2.2.2 h
 unfold unK at this
 split at this
 ·rename_i hu;rw[hu];rw[inS this]
 ·cases this
end
def uw(k:IntKind)(p q:Int):BinOp→Option AV
 | .add=>some (.d (.v (.int k (k.wrap (p+q)))))
 | .sub=>some (.d (.v (.int k (k.wrap (p - q)))))
 | .mul=>some (.d (.v (.int k (k.wrap (p*q)))))
 | .lss=>some (.d (.v (.bool (decide (p<q)))))
 | .leq=>some (.d (.v (.bool (decide (p≤q)))))
 | .gtr=>some (.d (.v (.bool (decide (p>q)))))
 | .geq=>some (.d (.v (.bool (decide (p≥q)))))
 | .eql=>some (.d (.v (.bool (decide (p=q)))))
 | .neq=>some (.d (.v (.bool (!decide (p=q)))))
 |_=>none
def ur(p q:ByteArray):BinOp→Option AV
 | .eql=>some (.d (.v (.bool (p.toList==q.toList))))
 | .neq=>some (.d (.v (.bool (!(p.toList==q.toList)))))
 |_=>none
def binS(b:BinOp):AV→AV→Option AV
 | .d (.v (.int k p)), .d (.v (.int k' q))=>bif decide (k=k') then uw k p q b else none
 | .d (.v (.string p)), .d (.v (.string q))=>ur p q b
 |_,_=>none
def uv(t:Ty)(st:List AO)(T:Nat):AV→Option AV
 | .pt id off=>match t.ag.get T with
  |some false=>match st[id]? with
   |some (.row _ cs)=>cs[off]?
   |_=>none
  |some true=>match st[id]?,t.sz.get T with
   |some (.row _ cs),some n=>bif Nat.ble (off+n) cs.length then some (.ag ((cs.drop off).take n)) else none
   |_,_=>none
  |none=>none
 | .d (.pc ps)=>match t.ag.get T with
  |some false=>match ps[0]? with
   |some p=>some (.d p)
   |none=>none
  |some true=>match t.sz.get T with
   |some n=>bif Nat.ble n ps.length then some (.d (.ag (ps.take n))) else none
   |none=>none
  |none=>none
 |_=>none
def faS(fo:Nat):AV→Option AV
 | .pt id off=>some (.pt id (off+fo))
 | .d (.pc ps)=>some (.d (.pc (ps.drop fo)))
 |_=>none
def fldS(f:Nat×Nat×Bool):AV→Option AV
 | .d (.ag ps)=>match f with
  |(fo,_,false)=>match ps[fo]? with
   |some p=>some (.d p)
   |none=>none
  |(fo,n,true)=>some (.d (.ag ((ps.drop fo).take n)))
 | .ag ps=>match f with
  |(fo,_,false)=>ps[fo]?
  |(fo,n,true)=>some (.ag ((ps.drop fo).take n))
 |_=>none
def nilS:AV→Option AV
 | .pt id off=>some (.pt id off)
 | .d (.pc ps)=>some (.d (.pc ps))
 | .fn (.func f) a b=>some (.fn (.func f) a b)
 |_=>none
def extS(i:Nat):AV→Option AV
 | .tu l=>l[i]?
 | .d (.tu l)=>match l[i]? with
  |some p=>some (.d p)
  |none=>none
 |_=>none
def notS:AV→Option AV
 | .d (.v (.bool b))=>some (.d (.v (.bool (!b))))
 |_=>none
def negS:AV→Option AV
 | .d (.v (.int k p))=>some (.d (.v (.int k (k.wrap (0 - p)))))
 |_=>none
def uz(k:IntKind):AV→Option AV
 | .d (.v (.int _ p))=>some (.d (.v (.int k (k.wrap p))))
 |_=>none
def ou:AV→Option Bool
 | .d (.v (.bool b))=>some b
 |_=>none
theorem fZ{x:AV}{b:Bool}(h:ou x=some b):x= .d (.v (.bool b)):=by
 unfold ou at h
 split at h
 ·rw[inS h]
 ·cases h
def ft(t:Ty)(env:Env)(st:List AO):Op→Option AV
 | .move x=>opv env x
 | .assign x=>opv env x
 | .pick c x y=>match(opv env c).bind ou with
  |some true=>opv env x
  |some false=>opv env y
  |none=>none
 | .load T x=>(opv env x).bind (uv t st T)
 | .fieldAddr S x i=>match t.fo' S i with
  |some (fo,_+1,_)=>(opv env x).bind (faS fo)
  |_=>none
 | .field S x i=>match t.fo' S i with
  |some f=>(opv env x).bind (fldS f)
  |none=>none
 | .nilCheck x=>(opv env x).bind nilS
 | .extract x i=>(opv env x).bind (extS i)
 | .unOp .not _ x=>(opv env x).bind notS
 | .unOp .neg _ x=>(opv env x).bind negS
 | .binOp b _ x y _=>match opv env x,opv env y with
  |some u1,some v1=>binS b u1 v1
  |_,_=>none
 | .convert S T x=>match t.un.get S,t.un.get T with
  |some _,some k=>(opv env x).bind (uz k)
  |_,_=>none
 | .makeFunc f first caps=>match aX env first.toList,aX env caps.toList with
  |some a,some b=>some (.fn f a b)
  |_,_=>none
 |_=>none
theorem aO{α β:Type}{o:Option α}{f:α→Option β}{r:β}(h:o.bind f=some r):∃x,o=some x∧f x=some r:=by
 cases o with
 |none=>cases h
 |some x=>exact⟨x,rfl,h⟩
section
variable{P:Program}{t:Ty}(ht:t.ok P=true){env:Env}{st:List AO}{dst:Option Tmp}{ty:TypeId}{pos:String}{after:Array Edge}{guard:Option (Nat×Bool)}
include ht
theorem iy{op:Op}{r:AV}(h:ft t env st op=some r):Yields P env st ⟨dst,op,ty,pos,after,guard⟩ r:=by
 cases op with
 |move x=>exact uK h
 |assign x=>exact pP h
 |pick c x y=>
  dsimp only[ft] at h
  split at h
  ·rename_i hc;obtain⟨z,h1,h2⟩:=aO hc;rw[fZ h2] at h1;exact pA h1 h
  ·rename_i hc;obtain⟨z,h1,h2⟩:=aO hc;rw[fZ h2] at h1;exact pB h1 h
  ·cases h
 |load T x=>
  obtain⟨z,h1,h2⟩:=aO h
  unfold uv at h2
  split at h2
  ·split at h2
   ·rename_i ha
    split at h2
    ·rename_i hs;exact uL h1 hs (gb ht ha) h2
    ·cases h2
   ·rename_i ha
    split at h2
    ·rename_i hs hn
     cases hb:Nat.ble (_+_) (List.length _) with
     |false=>rw[hb] at h2;cases h2
     |true=>rw[hb] at h2;obtain rfl:=inS h2;exact rQ h1 hs (gb ht ha) (mi ht hn) hb
    ·cases h2
   ·cases h2
  ·split at h2
   ·rename_i ha
    split at h2
    ·rename_i hp;obtain rfl:=inS h2;exact rP h1 (gb ht ha) hp
    ·cases h2
   ·rename_i ha
    split at h2
    ·rename_i hn
     cases hb:Nat.ble _ (List.length _) with
     |false=>rw[hb] at h2;cases h2
     |true=>rw[hb] at h2;obtain rfl:=inS h2;exact pE h1 (gb ht ha) (mi ht hn) hb
    ·cases h2
   ·cases h2
  ·cases h2
 |fieldAddr S x i=>
  dsimp only[ft] at h
  split at h
  ·rename_i hf
   obtain⟨z,h1,h2⟩:=aO h
   unfold faS at h2
   split at h2
   ·obtain rfl:=inS h2;exact lh (dx ht hf) h1
   ·obtain rfl:=inS h2;exact kb (dx ht hf) h1
   ·cases h2
  ·cases h
 |field S x i=>
  dsimp only[ft] at h
  split at h
  ·rename_i hf
   obtain⟨z,h1,h2⟩:=aO h
   unfold fldS at h2
   split at h2
   ·split at h2
    ·split at h2
     ·rename_i hp;obtain rfl:=inS h2;exact rS (dx ht hf) h1 hp
     ·cases h2
    ·obtain rfl:=inS h2;exact pL (dx ht hf) h1
   ·split at h2
    ·exact pK (dx ht hf) h1 h2
    ·obtain rfl:=inS h2;exact oL (dx ht hf) h1
   ·cases h2
  ·cases h
 |nilCheck x=>
  obtain⟨z,h1,h2⟩:=aO h
  unfold nilS at h2
  split at h2
  ·obtain rfl:=inS h2;exact k9 h1
  ·obtain rfl:=inS h2;exact lc h1
  ·obtain rfl:=inS h2;exact la h1
  ·cases h2
 |extract x i=>
  obtain⟨z,h1,h2⟩:=aO h
  unfold extS at h2
  split at h2
  ·exact oN h1 h2
  ·split at h2
   ·rename_i hp;obtain rfl:=inS h2;exact mD h1 hp
   ·cases h2
  ·cases h2
 |unOp u T x=>
  cases u with
  |not=>
   obtain⟨z,h1,h2⟩:=aO h
   unfold notS at h2
   split at h2
   ·obtain rfl:=inS h2;exact y_not h1
   ·cases h2
  |neg=>
   obtain⟨z,h1,h2⟩:=aO h
   unfold negS at h2
   split at h2
   ·obtain rfl:=inS h2;exact y_neg h1 rfl
   ·cases h2
  |_=>cases h
 |binOp b T x y T'=>
  dsimp only[ft] at h
  split at h
  ·rename_i hu hv
   unfold binS at h
   split at h
   ·rename_i k p k' q
    cases hk:decide (k=k') with
    |false=>rw[hk] at h;cases h
    |true=>
     rw[hk] at h
     have hk:=of_decide_eq_true hk
     subst hk
     simp only[cdT] at h
     cases b<;>simp only[uw] at h<;>first|cases h|(obtain rfl:=inS h)
     ·exact fk hu hv rfl
     ·exact y_sub hu hv rfl
     ·exact y_mul hu hv rfl
     ·exact y_eql hu hv
     ·exact y_neq hu hv
     ·exact y_lss hu hv
     ·exact y_leq hu hv
     ·exact y_gtr hu hv
     ·exact y_geq hu hv
   ·cases b<;>simp only[ur] at h<;>first|cases h|(obtain rfl:=inS h)
    ·exact um hu hv
    ·exact y_nes hu hv
   ·cases h
  ·cases h
 |convert S T x=>
  dsimp only[ft] at h
  split at h
  ·rename_i hS hT
   obtain⟨z,h1,h2⟩:=aO h
   unfold uz at h2
   split at h2
   ·obtain rfl:=inS h2;exact uP (mh ht hS) (mh ht hT) h1 rfl
   ·cases h2
  ·cases h
 |makeFunc f a b=>
  dsimp only[ft] at h
  split at h
  ·rename_i h1 h2
   obtain rfl:=inS h
   exact mA h1 h2
  ·cases h
 |_=>cases h
end
def eI(ops:Array Oper)(env:Env):Option (Nat×Bool)→Option Bool
 |none=>some true
 |some (j,b)=>match(ops[j]?).bind (·.dst) with
  |some t=>match env.get t with
   |some (.d (.v (.bool x)))=>some (x==b)
   |some (.d (.v (.tuple _)))=>some false
   |_=>none
  |none=>none
def gS(t:Ty)(n:Nat)(ops:Array Oper)(st:List AO)(env:Env)(o:Oper):Option Env:=
 match eI ops env o.guard with
 |some true=>match o.dst with
  |some d=>bif Nat.ble (d+1) n then(match ft t env st o.op with
   |some r=>some ((d,r)::env)
   |none=>none) else none
  |none=>none
 |some false=>match o.dst with
  |some d=>bif Nat.ble (d+1) n then some ((d, .d (.v undef))::env) else none
  |none=>some env
 |none=>none
def fB(t:Ty)(n:Nat)(ops:Array Oper)(st:List AO):Nat→List Oper→Env→Option (List Oper×Env)
 |0,l,env=>some (l,env)
 |k+1,o::l,env=>match gS t n ops st env o with
  |some env'=>fB t n ops st k l env'
  |none=>none
 |_+1,[],_=>none
section
variable{P:Program}{t:Ty}(ht:t.ok P=true){e:En}{ops:Array Oper}{st:List AO}{R:Env→List AO→Prop}{n:Nat}{RQ:Env→Prop}
omit ht in
theorem bt{env:Env}{o:Oper}(h:eI ops env o.guard=some true):Wt ops env o true:=by
 unfold eI at h
 split at h
 ·rename_i hg;exact Wt.none hg
 ·rename_i j b hg
  split at h
  ·rename_i hj
   split at h
   ·rename_i x hx
    have:x=b:=by simpa using h
    subst this
    exact bd hg hj hx
   ·cases h
   ·cases h
  ·cases h
omit ht in
theorem bf{env:Env}{o:Oper}(h:eI ops env o.guard=some false):Wt ops env o false:=by
 unfold eI at h
 split at h
 ·cases h
 ·rename_i j b hg
  split at h
  ·rename_i hj
   split at h
   ·rename_i x hx
    exact Wt.no hg hj hx (inS h)
   ·rename_i x hx
    intro m φ w a he
    simp only[Region.wanted,hg,eS he hj hx];rfl
   ·cases h
  ·cases h
include ht
theorem fw{env env':Env}{o:Oper}{l:List Oper}(h:gS t e.n ops st env o=some env')(k:WL P e ops l env' st R):WL P e ops (o::l) env st R:=by
 unfold gS at h
 split at h
 ·rename_i hw
  split at h
  ·rename_i d hd
   cases hb:Nat.ble (d+1) e.n with
   |false=>rw[hb] at h;cases h
   |true=>
    rw[hb] at h
    simp only[cdT] at h
    split at h
    ·rename_i r hr
     obtain rfl:=inS h
     obtain⟨od,oop,oty,opos,oaf,og⟩:=o
     exact WL.q (iy ht hr) (bt hw) hd hb k
    ·cases h
  ·cases h
 ·rename_i hw
  split at h
  ·rename_i d hd
   cases hb:Nat.ble (d+1) e.n with
   |false=>rw[hb] at h;cases h
   |true=>rw[hb] at h;obtain rfl:=inS h;exact WL.skip (bf hw) hd hb k
  ·rename_i hd;obtain rfl:=inS h;exact WL.skip0 (bf hw) hd k
 ·cases h
theorem qb{env env':Env}{o:Oper}{l:List Oper}(h:gS t n ops st env o=some env')(k:WQ P n ops l env' st RQ):WQ P n ops (o::l) env st RQ:=by
 unfold gS at h
 split at h
 ·rename_i hw
  split at h
  ·rename_i d hd
   cases hb:Nat.ble (d+1) n with
   |false=>rw[hb] at h;cases h
   |true=>
    rw[hb] at h
    simp only[cdT] at h
    split at h
    ·rename_i r hr
     obtain rfl:=inS h
     obtain⟨od,oop,oty,opos,oaf,og⟩:=o
     exact WQ.q (Yields.quiet (iy ht hr)) (bt hw) hd hb k
    ·cases h
  ·cases h
 ·rename_i hw
  split at h
  ·rename_i d hd
   cases hb:Nat.ble (d+1) n with
   |false=>rw[hb] at h;cases h
   |true=>rw[hb] at h;obtain rfl:=inS h;exact WQ.skip (bf hw) hd hb k
  ·rename_i hd;obtain rfl:=inS h;exact WQ.skip0 (bf hw) hd k
 ·cases h
theorem nC:∀{k:Nat}{l l':List Oper}{env env':Env},fB t e.n ops st k l env=some (l',env')→WL P e ops l' env' st R→WL P e ops l env st R
 |0,l,l',env,env',h,k=>by obtain⟨rfl,rfl⟩:=Prod.mk.inj (inS h);exact k
 |j+1,[],l',env,env',h,k=>by cases h
 |j+1,o::l,l',env,env',h,k=>by
  unfold fB at h
  split at h
  ·rename_i hs;exact fw ht hs (nC h k)
  ·cases h
theorem nB:∀{k:Nat}{l l':List Oper}{env env':Env},fB t n ops st k l env=some (l',env')→WQ P n ops l' env' st RQ→WQ P n ops l env st RQ
 |0,l,l',env,env',h,k=>by obtain⟨rfl,rfl⟩:=Prod.mk.inj (inS h);exact k
 |j+1,[],l',env,env',h,k=>by cases h
 |j+1,o::l,l',env,env',h,k=>by
  unfold fB at h
  split at h
  ·rename_i hs;exact qb ht hs (nB h k)
  ·cases h
end
theorem Rl{P:Program}[T:Tys P]{e:En}{ops:Array Oper}{st:List AO}{R:Env→List AO→Prop}{l l':List Oper}{env env':Env}(k:Nat)(h:fB T.t e.n ops st k l env=some (l',env'))(hw:WL P e ops l' env' st R):WL P e ops l env st R:=nC T.h h hw
theorem Rq{P:Program}[T:Tys P]{n:Nat}{ops:Array Oper}{st:List AO}{R:Env→Prop}{l l':List Oper}{env env':Env}(k:Nat)(h:fB T.t n ops st k l env=some (l',env'))(hw:WQ P n ops l' env' st R):WQ P n ops l env st R:=nB T.h h hw
inductive SS where
 |c(c:Code)(k:Ko)
 |x(x:Exit)(k:Ko)
 |l(ops:Array Oper)(l:List Oper)(k:Ko)
@[reducible] def SS.den(P:Program)(e:En)(env:Env)(st:List AO):SS→Prop
 | .c cd k=>WC P e cd k env st
 | .x ex k=>WE P e ex k env st
 | .l ops ol k=>WL P e ops ol env st (λenv' st'=>WE P e .normal k env' st')
def ctlC(k:Ko):Code→Option SS
 | .seq x y=>some (.c x (.seq y k))
 | .skip=>some (.x .normal k)
 | .ret=>some (.x .ret k)
 | .exit i=>some (.x (.exit i) k)
 | .block i x=>some (.c x (.blk i k))
 | .region _ a false=>bif av a.toList then some (.l a a.toList k) else none
 |_=>none
def ctlX:Exit→Ko→Option SS
 | .normal, .seq c k=>some (.c c k)
 | .ret, .seq _ k=>some (.x .ret k)
 | .exit i, .seq _ k=>some (.x (.exit i) k)
 | .normal, .blk _ k=>some (.x .normal k)
 | .ret, .blk _ k=>some (.x .ret k)
 | .exit i, .blk j k=>bif Nat.beq i j then some (.x .normal k) else some (.x (.exit i) k)
 | .ret, .lp _ k=>some (.x .ret k)
 | .exit i, .lp _ k=>some (.x (.exit i) k)
 |_,_=>none
def lr(t:Ty)(n:Nat)(st:List AO)(env:Env):SS→Option (SS×Env)
 | .c cd k=>match ctlC k cd with
  |some s=>some (s,env)
  |none=>none
 | .x ex k=>match ctlX ex k with
  |some s=>some (s,env)
  |none=>none
 | .l _ [] k=>some (.x .normal k,env)
 | .l ops (o::l) k=>match gS t n ops st env o with
  |some env'=>some (.l ops l k,env')
  |none=>none
def hY(t:Ty)(n:Nat)(st:List AO):Nat→SS→Env→Option (SS×Env)
 |0,s,env=>some (s,env)
 |k+1,s,env=>match lr t n st env s with
  |some (s',env')=>hY t n st k s' env'
  |none=>none
section
variable{P:Program}{t:Ty}(ht:t.ok P=true){e:En}{st:List AO}
include ht
theorem qa{env env':Env}{s s':SS}(h:lr t e.n st env s=some (s',env'))(k:s'.den P e env' st):s.den P e env st:=by
 cases s with
 |c c κ=>
  dsimp only[lr] at h
  split at h
  ·rename_i s1 hc
   obtain⟨rfl,rfl⟩:=Prod.mk.inj (inS h)
   cases c with
   |seq x y=>obtain rfl:=inS hc;exact cT k
   |skip=>obtain rfl:=inS hc;exact ke k
   |ret=>obtain rfl:=inS hc;exact mH k
   |exit i=>obtain rfl:=inS hc;exact nk k
   |block i x=>obtain rfl:=inS hc;exact dT k
   |region i a b=>
    cases b with
    |true=>cases hc
    |false=>
     dsimp only[ctlC] at hc
     cases hb:av a.toList with
     |false=>rw[hb] at hc;cases hc
     |true=>
      rw[hb] at hc
      obtain rfl:=inS hc
      exact dn (l:=a.toList) k hb
   |_=>cases hc
  ·cases h
 |x x κ=>
  dsimp only[lr] at h
  split at h
  ·rename_i s1 hc
   obtain⟨rfl,rfl⟩:=Prod.mk.inj (inS h)
   unfold ctlX at hc
   split at hc
   ·obtain rfl:=inS hc;exact dE k
   ·obtain rfl:=inS hc;exact dD k
   ·obtain rfl:=inS hc;exact gO k
   ·obtain rfl:=inS hc;exact pS k
   ·obtain rfl:=inS hc;exact iv k
   ·rename_i i j κ'
    cases hb:Nat.beq i j with
    |true=>rw[hb] at hc;obtain rfl:=inS hc;obtain rfl:=nbE hb;exact iw k
    |false=>rw[hb] at hc;obtain rfl:=inS hc;exact gQ hb k
   ·obtain rfl:=inS hc;exact oQ k
   ·obtain rfl:=inS hc;exact mG k
   ·cases hc
  ·cases h
 |l ops l κ=>
  cases l with
  |nil=>obtain⟨rfl,rfl⟩:=Prod.mk.inj (inS h);exact WL.nil k
  |cons o l=>
   dsimp only[lr] at h
   split at h
   ·rename_i env1 hs
    obtain⟨rfl,rfl⟩:=Prod.mk.inj (inS h)
    exact fw ht hs k
   ·cases h
theorem ct:∀{k:Nat}{s s':SS}{env env':Env},hY t e.n st k s env=some (s',env')→s'.den P e env' st→s.den P e env st
 |0,s,s',env,env',h,k=>by obtain⟨rfl,rfl⟩:=Prod.mk.inj (inS h);exact k
 |j+1,s,s',env,env',h,k=>by
  unfold hY at h
  split at h
  ·rename_i hs;exact qa ht hs (ct h k)
  ·cases h
end
section
variable{P:Program}[T:Tys P]{e:En}{st:List AO}{env env':Env}{κ κ':Ko}
theorem Rcc{c:Code}{c':Code}(k:Nat)(h:hY T.t e.n st k (.c c κ) env=some ((.c c' κ'),env'))(hw:WC P e c' κ' env' st):WC P e c κ env st:=ct (s:=(.c c κ)) T.h h hw
theorem Rcx{c:Code}{x':Exit}(k:Nat)(h:hY T.t e.n st k (.c c κ) env=some ((.x x' κ'),env'))(hw:WE P e x' κ' env' st):WC P e c κ env st:=ct (s:=(.c c κ)) T.h h hw
theorem Rcl{c:Code}{ops':Array Oper}{l':List Oper}(k:Nat)(h:hY T.t e.n st k (.c c κ) env=some ((.l ops' l' κ'),env'))(hw:WL P e ops' l' env' st λenv' st'=>WE P e .normal κ' env' st'):WC P e c κ env st:=ct (s:=(.c c κ)) T.h h hw
theorem Rxc{x:Exit}{c':Code}(k:Nat)(h:hY T.t e.n st k (.x x κ) env=some ((.c c' κ'),env'))(hw:WC P e c' κ' env' st):WE P e x κ env st:=ct (s:=(.x x κ)) T.h h hw
theorem Rxx{x:Exit}{x':Exit}(k:Nat)(h:hY T.t e.n st k (.x x κ) env=some ((.x x' κ'),env'))(hw:WE P e x' κ' env' st):WE P e x κ env st:=ct (s:=(.x x κ)) T.h h hw
theorem Rxl{x:Exit}{ops':Array Oper}{l':List Oper}(k:Nat)(h:hY T.t e.n st k (.x x κ) env=some ((.l ops' l' κ'),env'))(hw:WL P e ops' l' env' st λenv' st'=>WE P e .normal κ' env' st'):WE P e x κ env st:=ct (s:=(.x x κ)) T.h h hw
theorem Rlc{ops:Array Oper}{l:List Oper}{c':Code}(k:Nat)(h:hY T.t e.n st k (.l ops l κ) env=some ((.c c' κ'),env'))(hw:WC P e c' κ' env' st):WL P e ops l env st (λenv' st'=>WE P e .normal κ env' st'):=ct (s:=(.l ops l κ)) T.h h hw
theorem Rlx{ops:Array Oper}{l:List Oper}{x':Exit}(k:Nat)(h:hY T.t e.n st k (.l ops l κ) env=some ((.x x' κ'),env'))(hw:WE P e x' κ' env' st):WL P e ops l env st (λenv' st'=>WE P e .normal κ env' st'):=ct (s:=(.l ops l κ)) T.h h hw
theorem Rll{ops:Array Oper}{l:List Oper}{ops':Array Oper}{l':List Oper}(k:Nat)(h:hY T.t e.n st k (.l ops l κ) env=some ((.l ops' l' κ'),env'))(hw:WL P e ops' l' env' st λenv' st'=>WE P e .normal κ' env' st'):WL P e ops l env st (λenv' st'=>WE P e .normal κ env' st'):=ct (s:=(.l ops l κ)) T.h h hw
end
end Go.Sk
namespace Go.Sk
open Go.RowKit (Below)
section
variable{P:Program}{e:En}{ops:Array Oper}{rest:List Oper}{env:Env}{st:List AO}{R:Env→List AO→Prop}{κ:Ko}{x y:Code}
theorem Lv{a b:AV}(h:Le a b:=by
 repeat' (first|exact Le.refl _|exact Le.nil|exact Le.u _|exact Le.fs _|exact Les.refl _|exact trivial|refine gL ?_|refine aK ?_|refine Le.fnc ?_ ?_|refine⟨?_,?_⟩)):Le a b:=h
theorem Lw{a b:List AV}(h:Les a b:=by
 repeat' (first|exact Le.refl _|exact Le.nil|exact Le.u _|exact Le.fs _|exact Les.refl _|exact trivial|refine gL ?_|refine aK ?_|refine Le.fnc ?_ ?_|refine⟨?_,?_⟩)):Les a b:=h
theorem Rv{f:Func}{r:AV}(h:Res P f env st r:=by
 first|exact rs1 rfl (bh rfl)|exact rs2 rfl (bh rfl) (bh rfl)|exact eX rfl|exact rs3 rfl (bh rfl) (bh rfl) (bh rfl)):Res P f env st r:=h
theorem Ci{c:Operand}{t:Bool}{β:Sort _}{a b z:β}(h:(bif t then a else b)=z)(hc:opv env c=some (.d (.v (.bool t))))(h1:a=z→WC P e x κ env st)(h0:b=z→WC P e y κ env st):WC P e (.cond c x y) κ env st:=ef hc (λhh=>h1 (ja h hh)) (λhh=>h0 (jb h hh))
theorem Ix{α β:Type}{E Q:α→List D}{L:List α}{i:Int}{F:α→Option β}{r:β}{T n d:Nat}{bb:Bool}{x ix:Operand}{xr:AV}{kk:IntKind}{ty:TypeId}{pos:String}{after:Array Edge}(h:Option.bind (idx L i) F=some r)(hT:ai P T=some (n,bb))(hE:∀x,E x=Q x)(hx:opv env x=some xr)(hle:Le xr (.d (.sl (L.map E))))(hi:opv env ix=some (.d (.v (.int kk i))))(hd:Nat.ble (d+1) e.n=true)
  (k:∀x,idx L i=some x→F x=some r→WL P e ops rest ((d, .d (.pc (Q x)))::env) st R)(hn:∀x,(Q x).length=n:=by exact λ_=>rfl):WL P e ops (⟨some d, .indexAddr T x ix,ty,pos,after,none⟩::rest) env st R:=by
 obtain⟨z,hz,h⟩:=ac h
 exact WL.qn (aG hT hx hle hi (az hz) (bO hE hz) (hn z)) hd (k z hz h)
theorem FA{a p:Prop}(ha:a)(h:a→p:=by
 intro h
 obtain rfl:=inS h
 exact aT Rv Lv):p:=h ha
theorem FB{a p:Prop}(ha:a)(h:a→p:=by
 intro h
 subst h
 exact aT Rv Lv):p:=h ha
variable{dd:Nat}{ty:TypeId}{pos:String}{after:Array Edge}
theorem Bd{T:TypeId}{x:Operand}{r:AV}{ds:List D}(hx:opv env x=some r)(hk:r.okc=true)(hc:Les r.cells (ds.map .d))(hd:Nat.ble (dd+1) e.n=true)(h:WL P e ops rest ((dd, .d (.pc ds))::env) st R):WL P e ops (⟨some dd, .box T x,ty,pos,after,none⟩::rest) env st R:=WL.s (kO hx hk hc).does (Wt.none rfl) rfl hd h
theorem Bx{T:TypeId}{x:Operand}{r:AV}(hx:opv env x=some r)(hk:r.okc=true)(hd:Nat.ble (dd+1) e.n=true)(h:WL P e ops rest ((dd, .pt st.length 0)::env) (st++ [.row T r.cells]) R):WL P e ops (⟨some dd, .box T x,ty,pos,after,none⟩::rest) env st R:=WL.s (b_box hx hk).does (Wt.none rfl) rfl hd h
theorem Al{T:TypeId}{vs:List Value}(hz:ao P T=some vs)(hd:Nat.ble (dd+1) e.n=true)(h:WL P e ops rest ((dd, .pt st.length 0)::env) (st++ [.row T (vs.map λv=> .d (.v v))]) R):WL P e ops (⟨some dd, .alloc T,ty,pos,after,none⟩::rest) env st R:=WL.s (kP hz).does (Wt.none rfl) rfl hd h
theorem Tv{a b:List AO}(h:SLe a b:=by
 first|exact SLe.refl _|repeat' (first|exact rfl|exact Le.refl _|exact Le.nil|exact Le.u _|exact Le.fs _|exact Les.refl _|exact trivial|refine gL ?_|refine aK ?_|refine Le.fnc ?_ ?_|refine⟨?_,?_⟩)):SLe a b:=h
theorem Cb{b c:Bool}(h:b=c):D.v (Value.bool b)=D.v (Value.bool c):=by rw[h]
theorem Re{α:Type}{a:α}{l l':List α}(k:l=l'):a::l=a::l':=by rw[k]
theorem Sb{a b:Env}(h:Sub a b:=by
 repeat' (first|exact Sub.nil _|refine Sub.cons rfl ?_ ?_|exact Le.refl _|exact Le.nil|exact Le.u _|exact Le.fs _|exact Les.refl _|exact trivial|refine gL ?_|refine aK ?_|refine Le.fnc ?_ ?_|refine⟨?_,?_⟩)):Sub a b:=h
section
universe uu
variable{β:Sort uu}{z:β}{n:Nat}{α0 α1 α2 α3 α4 α5 α6 α7 α8 α9 α10 α11 α12 α13 α14 α15 α16 α17 α18 α19 α20 α21 α22 α23 α24 α25 α26 α27 α28 α29 α30 α31 α32 α33 α34 α35:Type}
theorem Jn0(A:Env)(S:List AO){K:Unit→β}{F:(Unit→β)→β}(h:am K F=z)(h1:∀k:Unit→β,F k=z→WC P e x (.lp (λu v=>k ()=z∧Sub (A) u∧SLe v (S)) κ) env st)(h2:K ()=z→WC P e y κ (A) (S)):WC P e (.seq x y) κ env st:=by
 refine dR _ (h1 K h) ?_
 rintro u v ⟨h,hs,hw⟩
 exact WC.sub hs (WC.weak hw (h2 h))
theorem En0{A:Env}{S:List AO}{k:Unit→β}(h:k ()=z)(h0:Sub (A) env:=by exact Sb)(h1:SLe st (S):=by exact Tv):WE P e .normal (.lp (λu v=>k ()=z∧Sub (A) u∧SLe v (S)) κ) env st:=dm ⟨h,h0,h1⟩
theorem Jn1(A:α0→Env)(S:α0→List AO){K:α0→β}{F:(α0→β)→β}(h:am K F=z)(h1:∀k:α0→β,F k=z→WC P e x (.lp (λu v=>∃x0,k x0=z∧Sub (A x0) u∧SLe v (S x0)) κ) env st)(h2:∀x0,K x0=z→WC P e y κ (A x0) (S x0)):WC P e (.seq x y) κ env st:=by
 refine dR _ (h1 K h) ?_
 rintro u v ⟨x0,h,hs,hw⟩
 exact WC.sub hs (WC.weak hw (h2 x0 h))
theorem Ln1(A:α0→Env)(S:α0→List AO)(L:Nat→α0→β){N:Nat}{i0:α0}(h:L N i0=z)(hz:∀x0,L 0 x0=z→False)(hs':∀n x0,L (n+1) x0=z→WC P e x (.lp (λu v=>∃y,(∃x0,L y x0=z∧Sub (A x0) u∧SLe v (S x0))∧y<n+1) κ) (A x0) (S x0))(h0:Sub (A i0) env:=by exact Sb)(h1:SLe st (S i0):=by exact Tv):WC P e (.loop x) κ env st:=by
 refine fp (λn u v=>∃x0,L n x0=z∧Sub (A x0) u∧SLe v (S x0)) (λn=>n) N ⟨_,h,h0,h1⟩ ?_
 rintro n u v ⟨x0,h,hs,hw⟩
 rcases n with _|n
 ·exact(hz x0 h).elim
 ·exact WC.sub hs (WC.weak hw (hs' n x0 h))
theorem En1{A:α0→Env}{S:α0→List AO}{k:α0→β}{i0:α0}(h:k i0=z)(h0:Sub (A i0) env:=by exact Sb)(h1:SLe st (S i0):=by exact Tv):WE P e .normal (.lp (λu v=>∃x0,k x0=z∧Sub (A x0) u∧SLe v (S x0)) κ) env st:=dm ⟨_,h,h0,h1⟩
theorem Fn1{A:α0→Env}{S:α0→List AO}{L:Nat→α0→β}{i0:α0}(h:L n i0=z)(h0:Sub (A i0) env:=by exact Sb)(h1:SLe st (S i0):=by exact Tv):WE P e .normal (.lp (λu v=>∃y,(∃x0,L y x0=z∧Sub (A x0) u∧SLe v (S x0))∧y<n+1) κ) env st:=dm ⟨n,⟨_,h,h0,h1⟩,Nat.lt_succ_self n⟩
theorem Jn2(A:α0→α1→Env)(S:α0→α1→List AO){K:α0→α1→β}{F:(α0→α1→β)→β}(h:am K F=z)(h1:∀k:α0→α1→β,F k=z→WC P e x (.lp (λu v=>∃x0 x1,k x0 x1=z∧Sub (A x0 x1) u∧SLe v (S x0 x1)) κ) env st)(h2:∀x0 x1,K x0 x1=z→WC P e y κ (A x0 x1) (S x0 x1)):WC P e (.seq x y) κ env st:=by
 refine dR _ (h1 K h) ?_
 rintro u v ⟨x0,x1,h,hs,hw⟩
 exact WC.sub hs (WC.weak hw (h2 x0 x1 h))
theorem Ln2(A:α0→α1→Env)(S:α0→α1→List AO)(L:Nat→α0→α1→β){N:Nat}{i0:α0}{i1:α1}(h:L N i0 i1=z)(hz:∀x0 x1,L 0 x0 x1=z→False)(hs':∀n x0 x1,L (n+1) x0 x1=z→WC P e x (.lp (λu v=>∃y,(∃x0 x1,L y x0 x1=z∧Sub (A x0 x1) u∧SLe v (S x0 x1))∧y<n+1) κ) (A x0 x1) (S x0 x1))(h0:Sub (A i0 i1) env:=by exact Sb)(h1:SLe st (S i0 i1):=by exact Tv):WC P e (.loop x) κ env st:=by
 refine fp (λn u v=>∃x0 x1,L n x0 x1=z∧Sub (A x0 x1) u∧SLe v (S x0 x1)) (λn=>n) N ⟨_,_,h,h0,h1⟩ ?_
 rintro n u v ⟨x0,x1,h,hs,hw⟩
 rcases n with _|n
 ·exact(hz x0 x1 h).elim
 ·exact WC.sub hs (WC.weak hw (hs' n x0 x1 h))
theorem En2{A:α0→α1→Env}{S:α0→α1→List AO}{k:α0→α1→β}{i0:α0}{i1:α1}(h:k i0 i1=z)(h0:Sub (A i0 i1) env:=by exact Sb)(h1:SLe st (S i0 i1):=by exact Tv):WE P e .normal (.lp (λu v=>∃x0 x1,k x0 x1=z∧Sub (A x0 x1) u∧SLe v (S x0 x1)) κ) env st:=dm ⟨_,_,h,h0,h1⟩
theorem Fn2{A:α0→α1→Env}{S:α0→α1→List AO}{L:Nat→α0→α1→β}{i0:α0}{i1:α1}(h:L n i0 i1=z)(h0:Sub (A i0 i1) env:=by exact Sb)(h1:SLe st (S i0 i1):=by exact Tv):WE P e .normal (.lp (λu v=>∃y,(∃x0 x1,L y x0 x1=z∧Sub (A x0 x1) u∧SLe v (S x0 x1))∧y<n+1) κ) env st:=dm ⟨n,⟨_,_,h,h0,h1⟩,Nat.lt_succ_self n⟩
theorem Jn3(A:α0→α1→α2→Env)(S:α0→α1→α2→List AO){K:α0→α1→α2→β}{F:(α0→α1→α2→β)→β}(h:am K F=z)(h1:∀k:α0→α1→α2→β,F k=z→WC P e x (.lp (λu v=>∃x0 x1 x2,k x0 x1 x2=z∧Sub (A x0 x1 x2) u∧SLe v (S x0 x1 x2)) κ) env st)(h2:∀x0 x1 x2,K x0 x1 x2=z→WC P e y κ (A x0 x1 x2) (S x0 x1 x2)):WC P e (.seq x y) κ env st:=by
 refine dR _ (h1 K h) ?_
 rintro u v ⟨x0,x1,x2,h,hs,hw⟩
 exact WC.sub hs (WC.weak hw (h2 x0 x1 x2 h))
theorem En3{A:α0→α1→α2→Env}{S:α0→α1→α2→List AO}{k:α0→α1→α2→β}{i0:α0}{i1:α1}{i2:α2}(h:k i0 i1 i2=z)(h0:Sub (A i0 i1 i2) env:=by exact Sb)(h1:SLe st (S i0 i1 i2):=by exact Tv):WE P e .normal (.lp (λu v=>∃x0 x1 x2,k x0 x1 x2=z∧Sub (A x0 x1 x2) u∧SLe v (S x0 x1 x2)) κ) env st:=dm ⟨_,_,_,h,h0,h1⟩
theorem Jn4(A:α0→α1→α2→α3→Env)(S:α0→α1→α2→α3→List AO){K:α0→α1→α2→α3→β}{F:(α0→α1→α2→α3→β)→β}(h:am K F=z)(h1:∀k:α0→α1→α2→α3→β,F k=z→WC P e x (.lp (λu v=>∃x0 x1 x2 x3,k x0 x1 x2 x3=z∧Sub (A x0 x1 x2 x3) u∧SLe v (S x0 x1 x2 x3)) κ) env st)(h2:∀x0 x1 x2 x3,K x0 x1 x2 x3=z→WC P e y κ (A x0 x1 x2 x3) (S x0 x1 x2 x3)):WC P e (.seq x y) κ env st:=by
 refine dR _ (h1 K h) ?_
 rintro u v ⟨x0,x1,x2,x3,h,hs,hw⟩
 exact WC.sub hs (WC.weak hw (h2 x0 x1 x2 x3 h))
theorem Ln4(A:α0→α1→α2→α3→Env)(S:α0→α1→α2→α3→List AO)(L:Nat→α0→α1→α2→α3→β){N:Nat}{i0:α0}{i1:α1}{i2:α2}{i3:α3}(h:L N i0 i1 i2 i3=z)(hz:∀x0 x1 x2 x3,L 0 x0 x1 x2 x3=z→False)(hs':∀n x0 x1 x2 x3,L (n+1) x0 x1 x2 x3=z→WC P e x (.lp (λu v=>∃y,(∃x0 x1 x2 x3,L y x0 x1 x2 x3=z∧Sub (A x0 x1 x2 x3) u∧SLe v (S x0 x1 x2 x3))∧y<n+1) κ) (A x0 x1 x2 x3) (S x0 x1 x2 x3))(h0:Sub (A i0 i1 i2 i3) env:=by exact Sb)(h1:SLe st (S i0 i1 i2 i3):=by exact Tv):WC P e (.loop x) κ env st:=by
 refine fp (λn u v=>∃x0 x1 x2 x3,L n x0 x1 x2 x3=z∧Sub (A x0 x1 x2 x3) u∧SLe v (S x0 x1 x2 x3)) (λn=>n) N ⟨_,_,_,_,h,h0,h1⟩ ?_
 rintro n u v ⟨x0,x1,x2,x3,h,hs,hw⟩
 rcases n with _|n
 ·exact(hz x0 x1 x2 x3 h).elim
 ·exact WC.sub hs (WC.weak hw (hs' n x0 x1 x2 x3 h))
theorem En4{A:α0→α1→α2→α3→Env}{S:α0→α1→α2→α3→List AO}{k:α0→α1→α2→α3→β}{i0:α0}{i1:α1}{i2:α2}{i3:α3}(h:k i0 i1 i2 i3=z)(h0:Sub (A i0 i1 i2 i3) env:=by exact Sb)(h1:SLe st (S i0 i1 i2 i3):=by exact Tv):WE P e .normal (.lp (λu v=>∃x0 x1 x2 x3,k x0 x1 x2 x3=z∧Sub (A x0 x1 x2 x3) u∧SLe v (S x0 x1 x2 x3)) κ) env st:=dm ⟨_,_,_,_,h,h0,h1⟩
theorem Fn4{A:α0→α1→α2→α3→Env}{S:α0→α1→α2→α3→List AO}{L:Nat→α0→α1→α2→α3→β}{i0:α0}{i1:α1}{i2:α2}{i3:α3}(h:L n i0 i1 i2 i3=z)(h0:Sub (A i0 i1 i2 i3) env:=by exact Sb)(h1:SLe st (S i0 i1 i2 i3):=by exact Tv):WE P e .normal (.lp (λu v=>∃y,(∃x0 x1 x2 x3,L y x0 x1 x2 x3=z∧Sub (A x0 x1 x2 x3) u∧SLe v (S x0 x1 x2 x3))∧y<n+1) κ) env st:=dm ⟨n,⟨_,_,_,_,h,h0,h1⟩,Nat.lt_succ_self n⟩
theorem Jn5(A:α0→α1→α2→α3→α4→Env)(S:α0→α1→α2→α3→α4→List AO){K:α0→α1→α2→α3→α4→β}{F:(α0→α1→α2→α3→α4→β)→β}(h:am K F=z)(h1:∀k:α0→α1→α2→α3→α4→β,F k=z→WC P e x (.lp (λu v=>∃x0 x1 x2 x3 x4,k x0 x1 x2 x3 x4=z∧Sub (A x0 x1 x2 x3 x4) u∧SLe v (S x0 x1 x2 x3 x4)) κ) env st)(h2:∀x0 x1 x2 x3 x4,K x0 x1 x2 x3 x4=z→WC P e y κ (A x0 x1 x2 x3 x4) (S x0 x1 x2 x3 x4)):WC P e (.seq x y) κ env st:=by
 refine dR _ (h1 K h) ?_
 rintro u v ⟨x0,x1,x2,x3,x4,h,hs,hw⟩
 exact WC.sub hs (WC.weak hw (h2 x0 x1 x2 x3 x4 h))
theorem En5{A:α0→α1→α2→α3→α4→Env}{S:α0→α1→α2→α3→α4→List AO}{k:α0→α1→α2→α3→α4→β}{i0:α0}{i1:α1}{i2:α2}{i3:α3}{i4:α4}(h:k i0 i1 i2 i3 i4=z)(h0:Sub (A i0 i1 i2 i3 i4) env:=by exact Sb)(h1:SLe st (S i0 i1 i2 i3 i4):=by exact Tv):WE P e .normal (.lp (λu v=>∃x0 x1 x2 x3 x4,k x0 x1 x2 x3 x4=z∧Sub (A x0 x1 x2 x3 x4) u∧SLe v (S x0 x1 x2 x3 x4)) κ) env st:=dm ⟨_,_,_,_,_,h,h0,h1⟩
theorem Ln7(A:α0→α1→α2→α3→α4→α5→α6→Env)(S:α0→α1→α2→α3→α4→α5→α6→List AO)(L:Nat→α0→α1→α2→α3→α4→α5→α6→β){N:Nat}{i0:α0}{i1:α1}{i2:α2}{i3:α3}{i4:α4}{i5:α5}{i6:α6}(h:L N i0 i1 i2 i3 i4 i5 i6=z)(hz:∀x0 x1 x2 x3 x4 x5 x6,L 0 x0 x1 x2 x3 x4 x5 x6=z→False)(hs':∀n x0 x1 x2 x3 x4 x5 x6,L (n+1) x0 x1 x2 x3 x4 x5 x6=z→WC P e x (.lp (λu v=>∃y,(∃x0 x1 x2 x3 x4 x5 x6,L y x0 x1 x2 x3 x4 x5 x6=z∧Sub (A x0 x1 x2 x3 x4 x5 x6) u∧SLe v (S x0 x1 x2 x3 x4 x5 x6))∧y<n+1) κ) (A x0 x1 x2 x3 x4 x5 x6) (S x0 x1 x2 x3 x4 x5 x6))(h0:Sub (A i0 i1 i2 i3 i4 i5 i6) env:=by exact Sb)(h1:SLe st (S i0 i1 i2 i3 i4 i5 i6):=by exact Tv):WC P e (.loop x) κ env st:=by
 refine fp (λn u v=>∃x0 x1 x2 x3 x4 x5 x6,L n x0 x1 x2 x3 x4 x5 x6=z∧Sub (A x0 x1 x2 x3 x4 x5 x6) u∧SLe v (S x0 x1 x2 x3 x4 x5 x6)) (λn=>n) N ⟨_,_,_,_,_,_,_,h,h0,h1⟩ ?_
 rintro n u v ⟨x0,x1,x2,x3,x4,x5,x6,h,hs,hw⟩
 rcases n with _|n
 ·exact(hz x0 x1 x2 x3 x4 x5 x6 h).elim
 ·exact WC.sub hs (WC.weak hw (hs' n x0 x1 x2 x3 x4 x5 x6 h))
theorem Fn7{A:α0→α1→α2→α3→α4→α5→α6→Env}{S:α0→α1→α2→α3→α4→α5→α6→List AO}{L:Nat→α0→α1→α2→α3→α4→α5→α6→β}{i0:α0}{i1:α1}{i2:α2}{i3:α3}{i4:α4}{i5:α5}{i6:α6}(h:L n i0 i1 i2 i3 i4 i5 i6=z)(h0:Sub (A i0 i1 i2 i3 i4 i5 i6) env:=by exact Sb)(h1:SLe st (S i0 i1 i2 i3 i4 i5 i6):=by exact Tv):WE P e .normal (.lp (λu v=>∃y,(∃x0 x1 x2 x3 x4 x5 x6,L y x0 x1 x2 x3 x4 x5 x6=z∧Sub (A x0 x1 x2 x3 x4 x5 x6) u∧SLe v (S x0 x1 x2 x3 x4 x5 x6))∧y<n+1) κ) env st:=dm ⟨n,⟨_,_,_,_,_,_,_,h,h0,h1⟩,Nat.lt_succ_self n⟩
theorem Jn8(A:α0→α1→α2→α3→α4→α5→α6→α7→Env)(S:α0→α1→α2→α3→α4→α5→α6→α7→List AO){K:α0→α1→α2→α3→α4→α5→α6→α7→β}{F:(α0→α1→α2→α3→α4→α5→α6→α7→β)→β}(h:am K F=z)(h1:∀k:α0→α1→α2→α3→α4→α5→α6→α7→β,F k=z→WC P e x (.lp (λu v=>∃x0 x1 x2 x3 x4 x5 x6 x7,k x0 x1 x2 x3 x4 x5 x6 x7=z∧Sub (A x0 x1 x2 x3 x4 x5 x6 x7) u∧SLe v (S x0 x1 x2 x3 x4 x5 x6 x7)) κ) env st)(h2:∀x0 x1 x2 x3 x4 x5 x6 x7,K x0 x1 x2 x3 x4 x5 x6 x7=z→WC P e y κ (A x0 x1 x2 x3 x4 x5 x6 x7) (S x0 x1 x2 x3 x4 x5 x6 x7)):WC P e (.seq x y) κ env st:=by
 refine dR _ (h1 K h) ?_
 rintro u v ⟨x0,x1,x2,x3,x4,x5,x6,x7,h,hs,hw⟩
 exact WC.sub hs (WC.weak hw (h2 x0 x1 x2 x3 x4 x5 x6 x7 h))
theorem Jn13(A:α0→α1→α2→α3→α4→α5→α6→α7→α8→α9→α10→α11→α12→Env)(S:α0→α1→α2→α3→α4→α5→α6→α7→α8→α9→α10→α11→α12→List AO){K:α0→α1→α2→α3→α4→α5→α6→α7→α8→α9→α10→α11→α12→β}{F:(α0→α1→α2→α3→α4→α5→α6→α7→α8→α9→α10→α11→α12→β)→β}(h:am K F=z)(h1:∀k:α0→α1→α2→α3→α4→α5→α6→α7→α8→α9→α10→α11→α12→β,F k=z→WC P e x (.lp (λu v=>∃x0 x1 x2 x3 x4 x5 x6 x7 x8 x9 x10 x11 x12,k x0 x1 x2 x3 x4 x5 x6 x7 x8 x9 x10 x11 x12=z∧Sub (A x0 x1 x2 x3 x4 x5 x6 x7 x8 x9 x10 x11 x12) u∧SLe v (S x0 x1 x2 x3 x4 x5 x6 x7 x8 x9 x10 x11 x12)) κ) env st)(h2:∀x0 x1 x2 x3 x4 x5 x6 x7 x8 x9 x10 x11 x12,K x0 x1 x2 x3 x4 x5 x6 x7 x8 x9 x10 x11 x12=z→WC P e y κ (A x0 x1 x2 x3 x4 x5 x6 x7 x8 x9 x10 x11 x12) (S x0 x1 x2 x3 x4 x5 x6 x7 x8 x9 x10 x11 x12)):WC P e (.seq x y) κ env st:=by
 refine dR _ (h1 K h) ?_
 rintro u v ⟨x0,x1,x2,x3,x4,x5,x6,x7,x8,x9,x10,x11,x12,h,hs,hw⟩
 exact WC.sub hs (WC.weak hw (h2 x0 x1 x2 x3 x4 x5 x6 x7 x8 x9 x10 x11 x12 h))
theorem Ln14(A:α0→α1→α2→α3→α4→α5→α6→α7→α8→α9→α10→α11→α12→α13→Env)(S:α0→α1→α2→α3→α4→α5→α6→α7→α8→α9→α10→α11→α12→α13→List AO)(L:Nat→α0→α1→α2→α3→α4→α5→α6→α7→α8→α9→α10→α11→α12→α13→β){N:Nat}{i0:α0}{i1:α1}{i2:α2}{i3:α3}{i4:α4}{i5:α5}{i6:α6}{i7:α7}{i8:α8}{i9:α9}{i10:α10}{i11:α11}{i12:α12}{i13:α13}(h:L N i0 i1 i2 i3 i4 i5 i6 i7 i8 i9 i10 i11 i12 i13=z)(hz:∀x0 x1 x2 x3 x4 x5 x6 x7 x8 x9 x10 x11 x12 x13,L 0 x0 x1 x2 x3 x4 x5 x6 x7 x8 x9 x10 x11 x12 x13=z→False)(hs':∀n x0 x1 x2 x3 x4 x5 x6 x7 x8 x9 x10 x11 x12 x13,L (n+1) x0 x1 x2 x3 x4 x5 x6 x7 x8 x9 x10 x11 x12 x13=z→WC P e x (.lp (λu v=>∃y,(∃x0 x1 x2 x3 x4 x5 x6 x7 x8 x9 x10 x11 x12 x13,L y x0 x1 x2 x3 x4 x5 x6 x7 x8 x9 x10 x11 x12 x13=z∧Sub (A x0 x1 x2 x3 x4 x5 x6 x7 x8 x9 x10 x11 x12 x13) u∧SLe v (S x0 x1 x2 x3 x4 x5 x6 x7 x8 x9 x10 x11 x12 x13))∧y<n+1) κ) (A x0 x1 x2 x3 x4 x5 x6 x7 x8 x9 x10 x11 x12 x13) (S x0 x1 x2 x3 x4 x5 x6 x7 x8 x9 x10 x11 x12 x13))(h0:Sub (A i0 i1 i2 i3 i4 i5 i6 i7 i8 i9 i10 i11 i12 i13) env:=by exact Sb)(h1:SLe st (S i0 i1 i2 i3 i4 i5 i6 i7 i8 i9 i10 i11 i12 i13):=by exact Tv):WC P e (.loop x) κ env st:=by
 refine fp (λn u v=>∃x0 x1 x2 x3 x4 x5 x6 x7 x8 x9 x10 x11 x12 x13,L n x0 x1 x2 x3 x4 x5 x6 x7 x8 x9 x10 x11 x12 x13=z∧Sub (A x0 x1 x2 x3 x4 x5 x6 x7 x8 x9 x10 x11 x12 x13) u∧SLe v (S x0 x1 x2 x3 x4 x5 x6 x7 x8 x9 x10 x11 x12 x13)) (λn=>n) N ⟨_,_,_,_,_,_,_,_,_,_,_,_,_,_,h,h0,h1⟩ ?_
 rintro n u v ⟨x0,x1,x2,x3,x4,x5,x6,x7,x8,x9,x10,x11,x12,x13,h,hs,hw⟩
 rcases n with _|n
 ·exact(hz x0 x1 x2 x3 x4 x5 x6 x7 x8 x9 x10 x11 x12 x13 h).elim
 ·exact WC.sub hs (WC.weak hw (hs' n x0 x1 x2 x3 x4 x5 x6 x7 x8 x9 x10 x11 x12 x13 h))
end
theorem RO{id:Nat}{l:List Oper}(rs:List AV)(tc:List (List Nat))(es:List Nat)(L:List (List AO))(plan:List (List Nat×List Nat×List Nat))(hm:P.follows .mixedOrders=true)(hok:f' l tc es plan=true)(hrs:Nat.beq rs.length l.length=true)(hes:es.all (λy=>Nat.blt y l.length)=true)
  (hobs:Obs P e l rs env (λc=>List.getD (st::L) c []) es 0 l plan)(h:WE P e .normal κ (FL env (λk=>Nat.blt k l.length) (aH l rs 0)) (List.getD (st::L) es.length []))(hnf:av l=true:=by kernel_rfl):WC P e (.region id l.toArray true) κ env st:=eH rs tc es _ plan hm hok hrs hes rfl hobs h hnf
def vA(x:Nat):List Nat→List Nat
 |[]=> [x]
 |y::l=>bif Nat.beq x y then y::l else y::vA x l
def tcF(l:List Oper):List (List Nat):=l.foldl (λacc o=>acc++ [o.after.toList.foldl (λr e=>bif Region.binds .any e then(acc.getD e.on []).foldl (λr x=>vA x r) (vA e.on r) else r) []]) []
theorem RT{id:Nat}{l:List Oper}(rs:List AV)(es:List Nat)(L:List (List AO))(plan:List (List Nat×List Nat×List Nat))(hm:P.follows .mixedOrders=true)(hok:f' l (tcF l) es plan=true)(hrs:Nat.beq rs.length l.length=true)(hes:es.all (λy=>Nat.blt y l.length)=true)
  (hobs:Obs P e l rs env (λc=>List.getD (st::L) c []) es 0 l plan)(h:WE P e .normal κ (FL env (λk=>Nat.blt k l.length) (aH l rs 0)) (List.getD (st::L) es.length []))(hnf:av l=true:=by kernel_rfl):WC P e (.region id l.toArray true) κ env st:=RO rs (tcF l) es L plan hm hok hrs hes hobs h hnf
theorem O1 [T:Tys P]{l:List Oper}{rs:List AV}{base:Env}{sts:Nat→List AO}{k d c:Nat}{o:Oper}{pk bk:List Nat}{up:Bool}{r:AV}(hd:o.dst=some d)(h:∀F:Env,gS T.t e.n l.toArray (sts c) (bQ l rs base pk bk++F) o=some ((d,r)::(bQ l rs base pk bk++F)))(hr:rs[k]? =some r)(hu:up=false):ObC P e l rs base sts k o pk bk up [c]:=
 ⟨λF=>fw T.h (h F) (ga hd hr (by rw[hu];rfl)),trivial⟩
theorem O2 [T:Tys P]{l:List Oper}{rs:List AV}{base:Env}{sts:Nat→List AO}{k d c c':Nat}{o:Oper}{pk bk:List Nat}{r:AV}(hd:o.dst=some d)(h:∀F:Env,gS T.t e.n l.toArray (sts c) (bQ l rs base pk bk++F) o=some ((d,r)::(bQ l rs base pk bk++F)))(hr:rs[k]? =some r)(hu:c'=c):Ob P e l rs base sts k o pk bk c c':=
 λF=>fw T.h (h F) (ga hd hr (by rw[hu]))
def sm{α:Type}:List α→Option (List α)
 |[]=>some []
 |a::l=>match sm l with
  |some l'=>some (a::l')
  |none=>none
theorem nN{α:Type}:∀{l l':List α},sm l=some l'→l=l'
 |[],l',h=>inS h
 |a::l,l',h=>by
  dsimp only[sm] at h
  split at h
  ·rename_i hl;rw[nN hl];exact inS h
  ·cases h
def vq:AO→Option AO
 | .row T cs=>match sm cs with
  |some c=>some (.row T c)
  |none=>none
 |o=>some o
theorem sk{o o':AO}(h:vq o=some o'):o=o':=by
 cases o with
 |row T cs=>
  dsimp only[vq] at h
  split at h
  ·rename_i hl;rw[nN hl];exact inS h
  ·cases h
 |_=>exact inS h
def sj:List AO→Option (List AO)
 |[]=>some []
 |a::l=>match vq a,sj l with
  |some a',some l'=>some (a'::l')
  |_,_=>none
theorem nM:∀{l l':List AO},sj l=some l'→l=l'
 |[],l',h=>inS h
 |a::l,l',h=>by
  dsimp only[sj] at h
  split at h
  ·rename_i ha hl;rw[sk ha,nM hl];exact inS h
  ·cases h
theorem St{st':List AO}(h:sj st=some st')(k:WL P e ops rest env st' R):WL P e ops rest env st R:=WL.st (nM h) k
end
end Go.Sk
namespace Go.Sk
open Go.RowKit (Below)
section
variable{P:Program}{e:En}{l:List Oper}{rs:List AV}{base:Env}{sts:List Bool→List AO→Prop}{es:List Nat}
end
end Go.Sk
namespace Go.Sk
open Go.RowKit (Below)
theorem Y1{a0 b:Prop}(k:b)(ha0:a0:=by exact O1 rfl (λ_=>rfl) rfl rfl):a0∧b:=⟨ha0,k⟩
theorem Y2{a0 a1 b:Prop}(k:b)(ha0:a0:=by exact O1 rfl (λ_=>rfl) rfl rfl)(ha1:a1:=by exact O1 rfl (λ_=>rfl) rfl rfl):a0∧a1∧b:=⟨ha0,ha1,k⟩
theorem Y4{a0 a1 a2 a3 b:Prop}(k:b)(ha0:a0:=by exact O1 rfl (λ_=>rfl) rfl rfl)(ha1:a1:=by exact O1 rfl (λ_=>rfl) rfl rfl)(ha2:a2:=by exact O1 rfl (λ_=>rfl) rfl rfl)(ha3:a3:=by exact O1 rfl (λ_=>rfl) rfl rfl):a0∧a1∧a2∧a3∧b:=⟨ha0,ha1,ha2,ha3,k⟩
theorem Y8{a0 a1 a2 a3 a4 a5 a6 a7 b:Prop}(k:b)(ha0:a0:=by exact O1 rfl (λ_=>rfl) rfl rfl)(ha1:a1:=by exact O1 rfl (λ_=>rfl) rfl rfl)(ha2:a2:=by exact O1 rfl (λ_=>rfl) rfl rfl)(ha3:a3:=by exact O1 rfl (λ_=>rfl) rfl rfl)(ha4:a4:=by exact O1 rfl (λ_=>rfl) rfl rfl)(ha5:a5:=by exact O1 rfl (λ_=>rfl) rfl rfl)(ha6:a6:=by exact O1 rfl (λ_=>rfl) rfl rfl)(ha7:a7:=by exact O1 rfl (λ_=>rfl) rfl rfl):a0∧a1∧a2∧a3∧a4∧a5∧a6∧a7∧b:=⟨ha0,ha1,ha2,ha3,ha4,ha5,ha6,ha7,k⟩
theorem X2b{a00 a01 a10 a11 b:Prop}(k:b)(ha00:a00:=by exact O2 rfl (λ_=>rfl) rfl rfl)(ha01:a01:=by exact O2 rfl (λ_=>rfl) rfl rfl)(ha10:a10:=by exact O2 rfl (λ_=>rfl) rfl rfl)(ha11:a11:=by exact O2 rfl (λ_=>rfl) rfl rfl):(a00∧a01∧True)∧(a10∧a11∧True)∧b:=⟨⟨ha00,ha01,trivial⟩,⟨ha10,ha11,trivial⟩,k⟩
theorem rc{P:Program}{e:En}[T:Tys P]{l:List Oper}{rs:List AV}{base:Env}{sts:Nat→List AO}{k d c c':Nat}{o:Oper}{pk bk:List Nat}{a b:Bool}(hb:a=b)(h:∀F:Env,fB T.t e.n l.toArray (sts c) 1 [o] (bQ l rs base pk bk++F)=some ([],(d, .d (.v (.bool a)))::(bQ l rs base pk bk++F)):=by exact λ_=>rfl)(hd:o.dst=some d:=by exact rfl)(hr:rs[k]? =some (.d (.v (.bool b))):=by exact rfl)(hu:sts c=sts c':=by exact rfl):Ob P e l rs base sts k o pk bk c c':=
 λF=>Rl 1 (h F) (WL.cast d (by simp[an]) (wa (Cb hb)) (rx hd hr hu))
theorem zo{a b:Prop}(h:a)(k:b):(a∧True)∧b:=⟨⟨h,trivial⟩,k⟩
abbrev p00:List Nat×List Nat×List Nat:=([],[],[0])
abbrev p01(y0:Nat):List Nat×List Nat×List Nat:=([],[y0],[0])
abbrev q01(y0 z:Nat):List Nat×List Nat×List Nat:=([],[y0],[z])
abbrev p10(x0:Nat):List Nat×List Nat×List Nat:=([x0],[],[0])
abbrev p11(x0 y0:Nat):List Nat×List Nat×List Nat:=([x0],[y0],[0])
abbrev p20(x0 x1:Nat):List Nat×List Nat×List Nat:=([x0,x1],[],[0])
abbrev q20(x0 x1 z:Nat):List Nat×List Nat×List Nat:=([x0,x1],[],[z])
abbrev p30(x0 x1 x2:Nat):List Nat×List Nat×List Nat:=([x0,x1,x2],[],[0])
abbrev u01(y0:Nat):List Nat×List Nat×List Nat:=([],[y0],[0,1])
abbrev u10(x0:Nat):List Nat×List Nat×List Nat:=([x0],[],[0,1])
theorem Z6{α β γ δ ε ζ:Type}{a:α}{b:β}{c:γ}{d:δ}{e:ε}{f:ζ}:a=a∧b=b∧c=c∧d=d∧e=e∧f=f:=⟨rfl,rfl,rfl,rfl,rfl,rfl⟩
theorem Z2{α β:Type}{a:α}{b:β}:a=a∧b=b:=⟨rfl,rfl⟩
theorem Z4{α β γ δ:Type}{a:α}{b:β}{c:γ}{d:δ}:a=a∧b=b∧c=c∧d=d:=⟨rfl,rfl,rfl,rfl⟩
theorem Z3{α β γ:Type}{a:α}{b:β}{c:γ}:a=a∧b=b∧c=c:=⟨rfl,rfl,rfl⟩
theorem wF{P:Program}{e:En}{ops:Array Oper}{rest:List Oper}{env:Env}{st:List AO}{R:Env→List AO→Prop}{o:Oper}{d:Nat}{f:FuncId}{c:Call}{x:Operand}{first caps asz:List AV}{ds:List D}{y:D}(a:o.op= .call c∧c.callee= .value x∧opv env x=some (.fn (.func f) first caps)∧aX env c.args.toList=some asz)(hc:Pu P f ds y)(hl:Les (first++asz++caps) (ds.map .d))
  (b:o.guard=none∧o.dst=some d∧Nat.ble (d+1) e.n=true)(h:WL P e ops rest ((d, .d y)::env) st R):WL P e ops (o::rest) env st R:=WL.fn a.1 a.2.1 a.2.2.1 a.2.2.2 hc hl (Wt.none b.1) b.2.1 b.2.2 h
theorem sS{P:Program}{e:En}{ops:Array Oper}{rest:List Oper}{env:Env}{st:List AO}{R:Env→List AO→Prop}{T:TypeId}{x y:Operand}{id off n:Nat}{T':TypeId}{cs:List AV}{r:AV}{rs:List AV}{ty:TypeId}{pos:String}{after:Array Edge}(a:opv env x=some (.pt id off)∧st[id]? =some (.row T' cs)∧opv env y=some r∧r.okc=true∧r.cells=rs∧rs.all AV.ok1=true)
  (hn:aM P T=some n)(b:rs.length=n∧Nat.ble (off+n) cs.length=true)(h:WL P e ops rest env (st.set id (.row T' (cs.take off++rs++cs.drop (off+n)))) R):WL P e ops (⟨none, .store T x y,ty,pos,after,none⟩::rest) env st R:=
 WL.s0 (t4 a.1 a.2.1 a.2.2.1 a.2.2.2.1 a.2.2.2.2.1 a.2.2.2.2.2 hn b.1 b.2) (Wt.none rfl) rfl h
section
variable{P:Program}{e:En}{ops:Array Oper}{l:List Oper}{st:List AO}{env env0 env1:Env}{R:Env→List AO→Prop}
theorem Nn{t d:Nat}{b z:Bool}(n:Nat)(h1:env1=env1.take n++((t, .d (.v (.bool b)))::env0):=by exact rfl)(h2:d9 (env1.take n) env0=true:=by exact rfl)(h3:Env.get (env1.take n) d=some (.d (.v (.bool z))):=by exact rfl):WL P e ops [] env1 st (λenv' st'=>st'=st∧GrpJ env0 t b d z env'):=WL.nil ⟨rfl,env1.take n,h1,h2,h3⟩
theorem Rn [T:Tys P]{t d:Nat}{b z:Bool}(k n:Nat)(h:fB T.t e.n ops st k l env=some ([],env1):=by exact rfl)(h1:env1=env1.take n++((t, .d (.v (.bool b)))::env0):=by exact rfl)(h2:d9 (env1.take n) env0=true:=by exact rfl)(h3:Env.get (env1.take n) d=some (.d (.v (.bool z))):=by exact rfl):WL P e ops l env st (λenv' st'=>st'=st∧GrpJ env0 t b d z env'):=Rl k h (Nn n h1 h2 h3)
theorem On [T:Tys P]{t d:Nat}{b z z':Bool}(k n:Nat)(hz:some z'=some z)(h:fB T.t e.n ops st k l env=some ([],env1):=by exact rfl)(h1:env1=env1.take n++((t, .d (.v (.bool b)))::env0):=by exact rfl)(h2:d9 (env1.take n) env0=true:=by exact rfl)(h3:Env.get (env1.take n) d=some (.d (.v (.bool z'))):=by exact rfl):WL P e ops l env st (λenv' st'=>st'=st∧GrpJ env0 t b d z env'):=Rn k n h h1 h2 (h3.trans (by rw[inS hz]))
theorem AG [T:Tys P]{env2:Env}(k t d a n:Nat){x y:Bool}(hr:WL P e ops (l.drop k) ((d, .d (.v (.bool (x&&y))))::env) st R)(hx:env.get t=some (.d (.v (.bool x))):=by exact rfl)(h:fB T.t e.n ops st a (l.take k) ((t, .d (.v (.bool true)))::env)=some ([],env1):=by exact rfl)(h1:env1=env1.take n++((t, .d (.v (.bool true)))::env):=by exact rfl)(h2:d9 (env1.take n) env=true:=by exact rfl)(h3:Env.get (env1.take n) d=some (.d (.v (.bool y))):=by exact rfl)
  (g:fB T.t e.n ops st a (l.take k) ((t, .d (.v (.bool false)))::env)=some ([],env2):=by exact rfl)(g1:env2=env2.take n++((t, .d (.v (.bool false)))::env):=by exact rfl)(g2:d9 (env2.take n) env=true:=by exact rfl)(g3:Env.get (env2.take n) d=some (.d (.v (.bool false))):=by exact rfl):WL P e ops l env st R:=WL.and k hx (λ_=>Rn a n h h1 h2 h3) (Rn a n g g1 g2 g3) hr
theorem OG [T:Tys P]{env2:Env}(k t d a n:Nat){x y:Bool}(hr:WL P e ops (l.drop k) ((d, .d (.v (.bool (x||y))))::env) st R)(hx:env.get t=some (.d (.v (.bool x))):=by exact rfl)(h:fB T.t e.n ops st a (l.take k) ((t, .d (.v (.bool false)))::env)=some ([],env1):=by exact rfl)(h1:env1=env1.take n++((t, .d (.v (.bool false)))::env):=by exact rfl)(h2:d9 (env1.take n) env=true:=by exact rfl)(h3:Env.get (env1.take n) d=some (.d (.v (.bool y))):=by exact rfl)
  (g:fB T.t e.n ops st a (l.take k) ((t, .d (.v (.bool true)))::env)=some ([],env2):=by exact rfl)(g1:env2=env2.take n++((t, .d (.v (.bool true)))::env):=by exact rfl)(g2:d9 (env2.take n) env=true:=by exact rfl)(g3:Env.get (env2.take n) d=some (.d (.v (.bool true))):=by exact rfl):WL P e ops l env st R:=WL.or k hx (λ_=>Rn a n h h1 h2 h3) (Rn a n g g1 g2 g3) hr
theorem Gg(k t d:Nat)(z:Bool){x:Bool}{β:Type}{a b w:β}(hb:(bif x then a else b)=w)(h1:a=w→WL P e ops (l.take k) ((t, .d (.v (.bool true)))::env) st λenv' st'=>st'=st∧GrpJ env t true d z env')(h0:b=w→WL P e ops (l.take k) ((t, .d (.v (.bool false)))::env) st λenv' st'=>st'=st∧GrpJ env t false d z env')
  (hr:WL P e ops (l.drop k) ((d, .d (.v (.bool z)))::env) st R)(hx:env.get t=some (.d (.v (.bool x))):=by exact rfl):WL P e ops l env st R:=WL.grp k hx (λhh=>h1 (ja hb hh)) (λhh=>h0 (jb hb hh)) hr
end
theorem fI{P:Program}{f:FuncId}{fn:Func}{c:Code}{asz:List D}{x:D}{n:Nat}(hf:P.funcs[f]? =some fn)(h:∀φ w,WC P ⟨[],φ,w,n,none,none⟩ c (.fin fn (λr' st'=>r'= .d x∧st'=[])) (bq 0 (asz.map .d)) [])(h1:(fn.name== "runtime.NumGoroutine")=false:=by kernel_rfl)
  (h2:fn.body=some c:=by exact rfl)(h3:fn.ntmps=n:=by exact rfl)(h4:Nat.ble (asz.map AV.d).length n=true:=by exact rfl):Pu P f asz x:=qR hf h1 h2 h3 h4 h
theorem cI{P:Program}{f:FuncId}{fn:Func}{c:Code}{asz:List AV}{st:List AO}{Q:AV→List AO→Prop}{n:Nat}(hf:P.funcs[f]? =some fn)(h:∀m φ w,m.length=st.length→WC P ⟨m,φ,w,n,none,none⟩ c (.fin fn Q) (bq 0 asz) st)(h1:(fn.name== "runtime.NumGoroutine")=false:=by kernel_rfl)
  (h2:fn.body=some c:=by exact rfl)(h3:fn.ntmps=n:=by exact rfl)(h4:Nat.ble asz.length n=true:=by exact rfl):Ctr P f asz st Q:=eC hf h1 h2 h3 h4 h
end Go.Sk
