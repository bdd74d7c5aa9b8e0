/-
  Regions that draw their order, of any kind: each operation is shown alone, over what its predecessors surely have left.
-/
import Derived.Laws.StructEq
import Derived.Laws.Cover3
import Derived.ProofKit
import Derived.SizedLaws
import Derived.Laws.Pointers
import Derived.Laws.Strings3
import Derived.Laws.DeepStrings4
import Derived.Laws.Strings
import Derived.WideKeyRuns
import Derived.Sort.OwnSortedInts
import Derived.Shelf.Slices.CompactI
import Derived.WideLaws
import Derived.RecoverIn
import Derived.Maps.RangeRun
import Derived.Laws.IdiomStrings
import Derived.Test.YtejcfgjpdocaoaaGreatDoorSa
set_option linter.all false
namespace Go.Sk
open Go.RowKit (Below)
def FL(base:Env)(L:Nat->Bool):List (Nat×Nat×AV)->Env
 |[]=>base
 |(k,d,r)::rest=>bif L k then(d,r)::FL base L rest else FL base L rest
def bO:List Oper->List AV->Nat->List (Nat×Nat×AV)
 |o::l,r::rs,k=>(match o.dst with|some d=>(k,d,r)::bO l rs (k+1)|none=>bO l rs (k+1))
 |_,_,_=> []
theorem bi(k:Nat)(v:AV)(r:Env)(t:Nat):Env.get ((k,v)::r) t=if t=k then some v else Env.get r t:=by
 conv=>lhs;unfold Env.get
 simp_all
theorem ln{base:Env}{L:Nat->Bool}{k d:Nat}{r:AV}:∀{reg:List (Nat×Nat×AV)},(reg.map (·.2.1)).Nodup->(k,d,r)∈reg->L k=true->(FL base L reg).get d=some r
 |(j,d',r')::reg,hn,hm,hL=>by
  simp only[List.map_cons,List.nodup_cons] at hn;rcases List.mem_cons.1 hm with h|h
  grind [FL,bi];have hne:d≠d':=λhe=>hn.1 (by subst he;exact List.mem_map.2 ⟨_,h,rfl⟩);have:=ln (base:=base) hn.2 h hL;grind [FL,bi]
theorem nz{base:Env}{L:Nat->Bool}{t:Nat}:∀{reg:List (Nat×Nat×AV)},(∀k r,(k,t,r)∈reg->L k=false)->(FL base L reg).get t=base.get t
 |[],_=>rfl
 |(j,d',r')::reg,h=>by
  have ih:=nz (base:=base) (L:=L) (t:=t) (reg:=reg) (λk r hm=>h k r (List.mem_cons_of_mem _ hm));grind [FL,bi]
theorem ny{base:Env}{L L':Nat->Bool}{k t:Nat}:∀{reg:List (Nat×Nat×AV)},(∀j,j≠k->L' j=L j)->(∀r,(k,t,r)∉reg)->(FL base L' reg).get t=(FL base L reg).get t
 |[],_,_=>rfl
 |(j,d',r')::reg,h,hk=>by
  have ih:=ny (base:=base) (reg:=reg) h (λr hr=>hk r (List.mem_cons_of_mem _ hr));unfold FL;by_cases hjk:j=k;grind [bi];grind [bi]
theorem jt:∀{l:List Oper}{rs:List AV}{k j d:Nat}{r:AV},(j,d,r)∈bO l rs k->k<=j/\∃o,l[j - k]? =some o/\o.dst=some d/\rs[j - k]? =some r
 |[],rs,k,j,d,r,h=>by simp[bO] at h
 |o::l,[],k,j,d,r,h=>by simp[bO] at h
 |o::l,r0::rs,k,j,d,r,h=>by
  unfold bO at h;have key:(j,d,r)∈bO l rs (k+1)->k<=j/\∃o',(o::l)[j - k]? =some o'/\o'.dst=some d/\(r0::rs)[j - k]? =some r:=λh=>by
   obtain⟨h1,o',h2,h3,h4⟩:=jt h;grind
  grind
theorem gI:∀{l:List Oper}{rs:List AV}{k j d:Nat}{r:AV}{o:Oper},l[j]? =some o->o.dst=some d->rs[j]? =some r->(k+j,d,r)∈bO l rs k
 |[],rs,k,j,d,r,o,h,_,_=>by simp at h
 |o0::l,[],k,j,d,r,o,_,_,h=>by simp at h
 |o0::l,r0::rs,k,0,d,r,o,h1,h2,h3=>by
  grind [bO]
 |o0::l,r0::rs,k,j+1,d,r,o,h1,h2,h3=>by
  have:=gI (k:=k+1) (by simpa using h1:l[j]? =some o) h2 (by simpa using h3:rs[j]? =some r);grind [bO]
def sO(ops:List Oper)(tc:List (List Nat)):Bool:=
 (List.range ops.length).all λk=>match ops[k]? with
  |none=>false
  |some o=>(o.after.toList.all λe=> !(Region.binds .any e)||Nat.blt e.on k)&&
   (tc.getD k []).all λj=>o.after.toList.any λe=>Region.binds .any e&&(Nat.beq e.on j||(tc.getD e.on []).contains j)
def pR(ops:List Oper)(L:Nat->Bool):Prop:=∀(k:Nat)(o:Oper),ops[k]? =some o->L k=true->∀e∈o.after,Region.binds .any e=true->L e.on=true
theorem fm{ops:List Oper}{tc:List (List Nat)}(hok:sO ops tc=true){L:Nat->Bool}(hd:pR ops L):∀(k:Nat)(o:Oper),ops[k]? =some o->(∀e∈o.after,Region.binds .any e=true->L e.on=true)->∀j∈tc.getD k [],L j=true:=by
 intro k;induction k using Nat.strongRecOn with
 |_ k ih=>
  intro o ho hall j hj;have hk:k<ops.length:=by grind
  have h1:=List.all_eq_true.1 hok k (List.mem_range.2 hk);simp only[ho,Bool.and_eq_true] at h1;have h2:=List.any_eq_true.1 (List.all_eq_true.1 h1.2 j hj);obtain⟨e,he,h3⟩:=h2;simp only[Bool.and_eq_true,Bool.or_eq_true] at h3;have hea:e∈o.after:=by grind
  have hL:=hall e hea h3.1;rcases h3.2 with h4|h4
  grind [nbE];have h5:=List.all_eq_true.1 h1.1 e he;simp only[h3.1,Bool.not_true,Bool.false_or] at h5;have hlt:e.on<k:=by simp_all
  cases hoe:ops[e.on]? with
  |none=>grind
  |some o'=>exact ih e.on hlt o' hoe (λe' he' hb=>hd e.on o' hoe hL e' he' hb) j (by simpa using h4)
def cnt(L:Nat->Bool):List Nat->Nat
 |[]=>0
 |e::es=>bif L e then cnt L es+1 else 0
def eko(l:List Oper)(rs:List AV)(j:Nat):Option (Nat×AV):=match l[j]?,rs[j]? with
 |some o,some r=>o.dst.map λd=>(d,r)
 |_,_=>none
def ekB(base:Env):List Nat->Env
 |x::bk=>(match base.get x with|some v=>(x,v)::ekB base bk|none=>ekB base bk)
 |[]=> []
def ekP(l:List Oper)(rs:List AV)(tail:Env):List Nat->Env
 |j::pk=>(match eko l rs j with|some p=>p::ekP l rs tail pk|none=>ekP l rs tail pk)
 |[]=>tail
def dq(l:List Oper)(rs:List AV)(base:Env)(pk bk:List Nat):Env:=ekP l rs (ekB base bk) pk
def Ob(P:Program)(e:En)(l:List Oper)(rs:List AV)(base:Env)(sts:Nat->List AO)(k:Nat)(o:Oper)(pk bk:List Nat)(c c':Nat):Prop:=
 ∀F:Env,WL P e l.toArray [o] (dq l rs base pk bk++F) (sts c) λenv' st'=>st'=sts c'/\∃pre,env'=pre++(dq l rs base pk bk++F)/\
  (∀t x,pre.get t=some x->o.dst=some t)/\∀d r,o.dst=some d->rs[k]? =some r->pre.get d=some r
def ObC(P:Program)(e:En)(l:List Oper)(rs:List AV)(base:Env)(sts:Nat->List AO)(k:Nat)(o:Oper)(pk bk:List Nat)(up:Bool):List Nat->Prop
 |[]=>True
 |c::cs=>Ob P e l rs base sts k o pk bk c (bif up then c+1 else c)/\ObC P e l rs base sts k o pk bk up cs
def Obs(P:Program)(e:En)(l:List Oper)(rs:List AV)(base:Env)(sts:Nat->List AO)(es:List Nat):Nat->List Oper->List (List Nat×List Nat×List Nat)->Prop
 |k,o::ol,p::ps=>ObC P e l rs base sts k o p.1 p.2.1 (es.contains k) p.2.2/\Obs P e l rs base sts es (k+1) ol ps
 |_,_,_=>True
theorem rf{P e l rs base sts k o pk bk up}:∀{cs:List Nat},ObC P e l rs base sts k o pk bk up cs->∀c∈cs,Ob P e l rs base sts k o pk bk c (bif up then c+1 else c)
 |c::cs,h,c',hc=>by
  rcases List.mem_cons.1 hc with rfl|hc
  exact h.1;exact rf h.2 c' hc
theorem re{P e l rs base sts es}:∀{ol:List Oper}{ps:List (List Nat×List Nat×List Nat)}{k j:Nat}{o:Oper}{p:List Nat×List Nat×List Nat},Obs P e l rs base sts es k ol ps->ol[j]? =some o->ps[j]? =some p->ObC P e l rs base sts (k+j) o p.1 p.2.1 (es.contains (k+j)) p.2.2
 |o0::ol,p0::ps,k,0,o,p,h,h1,h2=>by
  simp only[List.getElem?_cons_zero,ay] at h1 h2;subst h1;subst h2;exact h.1
 |o0::ol,p0::ps,k,j+1,o,p,h,h1,h2=>by
  have:=re h.2 (by simpa using h1:ol[j]? =some o) (by simpa using h2:ps[j]? =some p);grind
 |[],_,_,_,_,_,_,h1,_=>by simp at h1
 |_::_,[],_,_,_,_,_,_,h2=>by simp at h2
def fL:List Nat->Bool
 |[]=>true
 |x::l=> !(l.contains x)&&fL l
theorem ej:∀{l:List Nat},fL l=true->l.Nodup
 |[],_=>List.nodup_nil
 |x::l,h=>by
  simp only[fL,Bool.and_eq_true,Bool.not_eq_true',List.contains_eq_mem,decide_eq_false_iff_not] at h;exact List.nodup_cons.2 ⟨h.1,ej h.2⟩
def jY(l:List Oper)(tc:List (List Nat))(es:List Nat)(plan:List (List Nat×List Nat×List Nat)):Bool:=
 sO l tc&&fL (l.filterMap (·.dst))&&fL es&&Nat.beq plan.length l.length&&
 ((List.range es.length).all λi=>match es[i]?,es[i+1]? with|some x,some y=>(tc.getD y []).contains x|_,_=>true)&&
 (List.range l.length).all λk=>match plan[k]? with
  |none=>false
  |some (pk,bk,cs)=>(pk.all λj=>(tc.getD k []).contains j)&&(!(es.contains k)||cs.all λc=>es[c]? ==some k)&&
   (bk.all λx=>(List.range l.length).all λj=>match l[j]? with|some o=> !(o.dst==some x)||Nat.beq j k||(tc.getD j []).contains k|none=>true)&&
   (List.range (es.length+1)).all λc=>cs.contains c||(match es[c]? with|some y=>(tc.getD k []).contains y|none=>false)||
    (es.take c).any λy=>Nat.beq y k||(tc.getD y []).contains k
theorem t7{l:List Oper}{rs:List AV}{j t:Nat}{x:AV}(h:eko l rs j=some (t,x)):(j,t,x)∈bO l rs 0:=by
 unfold eko at h;split at h;rename_i o r h1 h2;cases hd:o.dst with
 |none=>simp[hd] at h
 |some d=>simp only[hd,Option.map_some,ay,Prod.mk.injEq] at h;obtain⟨rfl,rfl⟩:=h;have:=gI (k:=0) h1 hd h2;simpa using this
 cases h
theorem gy{base:Env}{t:Nat}{x:AV}:∀{bk:List Nat},(ekB base bk).get t=some x->t∈bk/\base.get t=some x
 |y::bk,h=>by
  unfold ekB at h;split at h;rename_i v hv;rw[bi] at h;split at h;simp_all;exact⟨List.mem_cons_of_mem _ (gy h).1,(gy h).2⟩;exact⟨List.mem_cons_of_mem _ (gy h).1,(gy h).2⟩
 |[],h=>by simp[ekB,Env.get] at h
theorem km{l:List Oper}{rs:List AV}{base:Env}{t:Nat}{x:AV}{bk:List Nat}:∀{pk:List Nat},(dq l rs base pk bk).get t=some x->(∃j∈pk,(j,t,x)∈bO l rs 0)\/(t∈bk/\base.get t=some x)
 |j::pk,h=>by
  unfold dq ekP at h;split at h;rename_i p hp;rw[bi] at h;split at h;grind [List.mem_cons_self,t7];rcases km (pk:=pk) h with⟨j',h1,h2⟩|h1
  grind;exact .inr h1;rcases km (pk:=pk) h with⟨j',h1,h2⟩|h1
  grind;exact .inr h1
 |[],h=> .inr (gy h)
theorem oJ{L:Nat->Bool}:∀{es:List Nat},∀y∈es.take (cnt L es),L y=true
 |[],y,h=>by simp[cnt] at h
 |e::es,y,h=>by
  unfold cnt at h;cases hL:L e with
  |false=>simp[hL] at h
  |true=>
   rw[hL,cdT,List.take_succ_cons] at h;rcases List.mem_cons.1 h with rfl|h
   exact hL;exact oJ y h
theorem oL{L:Nat->Bool}:∀{es:List Nat}{y:Nat},es[cnt L es]? =some y->L y=false
 |[],y,h=>by simp[cnt] at h
 |e::es,y,h=>by
  unfold cnt at h;cases hL:L e with
  |false=>simp_all
  |true=>simp only[hL,cdT,List.getElem?_cons_succ] at h;exact oL h
theorem ud{L:Nat->Bool}:∀{es:List Nat},cnt L es<=es.length
 |[]=>Nat.le_refl _
 |e::es=>by unfold cnt;cases L e<;>simp[ud]
theorem mn{L L':Nat->Bool}{k:Nat}(h:∀j,j≠k->L' j=L j):∀{es:List Nat},k∉es->cnt L' es=cnt L es
 |[],_=>rfl
 |e::es,hk=>by
  have h1:e≠k:=by grind
  unfold cnt;rw[h e h1,mn h (λhm=>hk (List.mem_cons_of_mem _ hm))]
theorem oK{L L':Nat->Bool}{k:Nat}(h:∀j,j≠k->L' j=L j)(hk:L k=false)(hk':L' k=true):∀{es:List Nat},es.Nodup->es[cnt L es]? =some k->(∀y,es[cnt L es+1]? =some y->L y=false)->cnt L' es=cnt L es+1
 |[],_,h1,_=>by simp at h1
 |e::es,hn,h1,h2=>by
  obtain⟨n1,n2⟩:=List.nodup_cons.1 hn;cases hL:L e with
  |true=>
   have hek:e≠k:=by grind
   have e1:cnt L (e::es)=cnt L es+1:=by simp[cnt,hL]
   rw[e1] at h1 h2⊢;have:=oK h hk hk' n2 (by simpa using h1) (λy hy=>h2 y (by simpa using hy));grind [cnt]
  |false=>
   have e1:cnt L (e::es)=0:=by simp[cnt,hL]
   rw[e1] at h1 h2⊢;simp only[List.getElem?_cons_zero,ay] at h1;subst h1;have:cnt L' es=0:=by
    cases es with
    |nil=>rfl
    |cons y es=>grind [cnt]
   grind [cnt]
theorem wd{es:List Nat}:∀{L:Nat->Bool},(∀y∈es,L y=true)->cnt L es=es.length:=by
 induction es with
 |nil=>intros;rfl
 |cons e es ih=>grind [cnt]
theorem mi:∀{l:List Bool}{i:Nat},l[i]? =some false->(l.set i true).count false+1=l.count false
 |[],i,h=>by simp at h
 |b::l,0,h=>by simp only[List.getElem?_cons_zero,ay] at h;subst h;simp
 |b::l,i+1,h=>by
  grind
section
variable{P:Program}{e:En}{l:List Oper}{rs:List AV}{base:Env}{sts:Nat->List AO}{es:List Nat}
def At(e:En)(l:List Oper)(rs:List AV)(base:Env)(sts:Nat->List AO)(es:List Nat)(L:Nat->Bool)(a:Act)(w:World):Prop:=
 ∃m φ,Inv e m φ (FL base L (bO l rs 0)) (sts (cnt L es)) a w
theorem kx{r:Option Nat}{Q':Exit->Act->World->Prop}{k:Nat}{o:Oper}{env:Env}{st:List AO}{R:Env->List AO->Prop}{m φ a w}{K:Act->World->Prop}(hnd:bP l=true)(ho:l[k]? =some o)(h:WL P e l.toArray [o] env st R)(hi:Inv e m φ env st a w)
  (hK:∀a' w' env' st' m' φ',R env' st'->Inv e m' φ' env' st' a' w'->K a' w'):wpOpIn (EF r) 0 P l.toArray Q' k K a w:=by
 have h1:=h m φ a w hi;have ho':l.toArray[k]? =some o:=by simpa using ho
 unfold wpOpIn;simp only[ho'];unfold eT at h1;have key:∀(a':Act)(w':World),eT P l.toArray (s6 e R) [] a' w'->K a' w':=by rintro a' w' ⟨_,env',st',m',φ',hR,hi'⟩;grind
 have hd:=eX hnd ho;split
 ·rename_i hw;rw[if_pos hw] at h1;rcases h1 with h1|h1
  ·refine Oper.wpIn_mono key (ig hd ?_);unfold Oper.wp at*
   generalize(execOp a.eval o).run P w=rr at*
   cases rr with
   |ok n w'=>
    cases n<;>simp only[Oper.upon] at h1⊢;case value v=>exact h1
    case skip=>exact h1
    case defer d=>exact h1
    case enter g args=>
     refine Calls.mono h1 λen w'' he=>?_;cases en with
     |returned u=>exact he
     |panicked c=>exact absurd he.1 sM
     |outgrown=>obtain⟨_,_,h0⟩:=he;exact absurd h0.1 sM
    grind
   |halt x w'=>cases x<;>simp only[Oper.upon] at h1⊢;exact absurd h1.1 sM
  exact Oper.wpIn_mono key (jU hd h1)
 rename_i hw;rw[if_neg hw] at h1;exact⟨λ_ _=>trivial,key _ _ h1⟩
theorem gH:∀{l:List Oper}{rs:List AV}{k:Nat},(l.filterMap (·.dst)).Nodup->((bO l rs k).map (·.2.1)).Nodup/\∀d∈(bO l rs k).map (·.2.1),d∈l.filterMap (·.dst)
 |[],rs,k,_=>by simp[bO]
 |o::l,[],k,_=>by simp[bO]
 |o::l,r::rs,k,h=>by
  unfold bO;cases hd:o.dst with
  |none=>simp only[List.filterMap_cons,hd] at h⊢;exact gH h
  |some d=>simp only[List.filterMap_cons,hd] at h⊢;obtain⟨h1,h2⟩:=List.nodup_cons.1 h;obtain⟨h3,h4⟩:=gH (rs:=rs) (k:=k+1) h2;grind
theorem ul{Q':Exit->Act->World->Prop}(hnf:bP l=true){tc:List (List Nat)}{plan:List (List Nat×List Nat×List Nat)}(hok:jY l tc es plan=true)(hrs:rs.length=l.length)
  {L L':Nat->Bool}{k:Nat}{o:Oper}(hobs:∀p,plan[k]? =some p->ObC P e l rs base sts (0+k) o p.1 p.2.1 (es.contains (0+k)) p.2.2)(ho:l[k]? =some o)(hd:pR l L)(hLn:∀y,L y=true->y<l.length)(hk:L k=false)(hpre:∀e∈o.after,Region.binds .any e=true->L e.on=true)
  (hL:∀j,j≠k->L' j=L j)(hk':L' k=true){a:Act}{w:World}(hat:At e l rs base sts es L a w):
  wpOpIn (EF e.rd) 0 P l.toArray Q' k (λa' w'=>At e l rs base sts es L' a' w') a w:=by
 obtain⟨m,φ,hi⟩:=hat
 simp only[jY,Bool.and_eq_true] at hok;obtain⟨⟨⟨⟨⟨htc,hnd⟩,hne⟩,hpl⟩,hch⟩,hall⟩:=hok;have hkl:k<l.length:=(giS.1 ho).1;have h1:=List.all_eq_true.1 hall k (List.mem_range.2 hkl);cases hp:plan[k]? with
 |none=>simp[hp] at h1
 |some p=>
  obtain⟨pk,bk,cs⟩:=p;simp only[hp,Bool.and_eq_true] at h1;obtain⟨⟨⟨hpk,hself⟩,hbk⟩,hcs⟩:=h1;have hobk:=hobs _ hp;rw[Nat.zero_add] at hobk;have htck:=fm htc hd k o ho hpre;have htcl:∀(y:Nat),L y=true->k∉tc.getD y []:=λy hy hm=>by
   have hyl:=hLn y hy;have hoy:l[y]? =some l[y]:=geG hyl;have:=fm htc hd y _ hoy (λe' he' hb=>hd y _ hoy hy e' he' hb) k hm;rw[hk] at this;cases this
  have hc:cnt L es∈cs:=by
   have h2:=List.all_eq_true.1 hcs (cnt L es) (List.mem_range.2 (Nat.lt_succ_of_le ud));simp only[Bool.or_eq_true] at h2;rcases h2 with(h2|h2)|h2
   simpa using h2;cases hy:es[cnt L es]? with
   |none=>simp[hy] at h2
   |some y=>simp only[hy] at h2;have:=htck y (by simpa using h2);rw[oL hy] at this;cases this
   obtain⟨y,hy,h3⟩:=List.any_eq_true.1 h2;have hLy:=oJ y hy;simp only[Bool.or_eq_true] at h3;rcases h3 with h3|h3
   rw[nbE h3,hk] at hLy;cases hLy;exact absurd (by simpa using h3) (htcl y hLy)
  have hob:=rf hobk _ hc;have hcnt:cnt L' es=bif es.contains k then cnt L es+1 else cnt L es:=by
   cases hmem:es.contains k with
   |false=>exact mn hL (by simpa using hmem)
   |true=>
    rw[hmem] at hself;simp only[Bool.not_true,Bool.false_or] at hself;have h4:=List.all_eq_true.1 hself _ hc;have h5:es[cnt L es]? =some k:=by simpa using h4
    refine oK hL hk hk' (ej hne) h5 (λy hy=>?_);have hlt:cnt L es<es.length:=(giS.1 h5).1;have h6:=List.all_eq_true.1 hch (cnt L es) (List.mem_range.2 hlt);simp only[h5,hy] at h6;cases hLy:L y with
    |false=>rfl
    |true=>exact absurd (by simpa using h6) (htcl y hLy)
  have hreg:=gH (rs:=rs) (k:=0) (ej hnd);have regk:∀(j t:Nat)(x:AV),(j,t,x)∈bO l rs 0->∃o',l[j]? =some o'/\o'.dst=some t/\rs[j]? =some x:=λj t x hm=>by
   obtain⟨_,o',h1,h2,h3⟩:=jt hm;exact⟨o',by simpa using h1,h2,by simpa using h3⟩
  have hek:∀t x,(dq l rs base pk bk).get t=some x->(FL base L (bO l rs 0)).get t=some x:=λt x hx=>by
   rcases km hx with⟨j,hj,hm⟩|⟨hm,hb⟩
   exact ln hreg.1 hm (htck j (by simpa using List.all_eq_true.1 hpk j hj));rw[nz];exact hb;intro j r hjm;obtain⟨o',h2,h3,_⟩:=regk j t r hjm;have h4:=List.all_eq_true.1 (List.all_eq_true.1 hbk t hm) j (List.mem_range.2 (giS.1 h2).1);simp only[h2,h3,beq_self_eq_true,Bool.not_true,Bool.false_or,Bool.or_eq_true] at h4;rcases h4 with h4|h4
   rw[nbE h4];exact hk;cases hLj:L j with
   |false=>rfl
   |true=>exact absurd (by simpa using h4) (htcl j hLj)
  have hsub:Sub (dq l rs base pk bk++FL base L (bO l rs 0)) (FL base L (bO l rs 0)):=λt x hx=>by
   rw[Env.get_append] at hx;cases hg:(dq l rs base pk bk).get t with
   |some y=>rw[hg] at hx;simp only[ay] at hx;subst hx;exact⟨y,hek t y hg,Le.refl y⟩
   |none=>rw[hg] at hx;exact⟨x,hx,Le.refl x⟩
  refine kx hnf ho (hob (FL base L (bO l rs 0))) (hi.sub hsub) ?_;rintro a' w' env' st' m' φ' ⟨rfl,pre,rfl,hp1,hp2⟩ hi';refine⟨m',φ',?_⟩;rw[hcnt];refine hi'.sub (λt x hx=>?_);rw[Env.get_append,Env.get_append];cases hpt:pre.get t with
  |some y=>
   have hdt:=hp1 t y hpt;cases hrk:rs[k]? with
   |none=>exact absurd (List.getElem?_eq_none_iff.1 hrk) oM
   |some r=>have h2:=hp2 t r hdt hrk;rw[hpt] at h2;simp only[ay] at h2;subst h2;have h3:(FL base L' (bO l rs 0)).get t=some y:=ln hreg.1 (by simpa using gI (k:=0) ho hdt hrk) hk';rw[h3] at hx;simp only[ay] at hx;subst hx;exact⟨y,rfl,Le.refl y⟩
  |none=>
   have h3:(FL base L' (bO l rs 0)).get t=(FL base L (bO l rs 0)).get t:=ny hL (λr hr=>by
    obtain⟨o',h2,h3,h4⟩:=regk k t r hr;rw[ho] at h2;simp only[ay] at h2;subst h2;have:=hp2 t r h3 h4;rw[hpt] at this;cases this)
   rw[h3] at hx;cases hg:(dq l rs base pk bk).get t with
   |some y=>have:=hek t y hg;rw[hx] at this;simp only[ay] at this;subst this;exact⟨x,rfl,Le.refl x⟩
   |none=>exact⟨x,hx,Le.refl x⟩
def Lof(listed:Array Bool)(k:Nat):Bool:=listed.getD k false
theorem wr(hnf:bP l=true){tc:List (List Nat)}{plan:List (List Nat×List Nat×List Nat)}{Q:Exit->Act->World->Prop}(hok:jY l tc es plan=true)(hrs:rs.length=l.length)(hobs:Obs P e l rs base sts es 0 l plan)
  (hQ:∀a w,At e l rs base sts es (λk=>Nat.blt k l.length) a w->Q .normal a w):
  ∀(f:Nat)(listed:Array Bool)(a:Act)(w:World),listed.size=l.length->pR l (Lof listed)->listed.toList.count false<=f->At e l rs base sts es (Lof listed) a w->wpAnyIn (EF e.rd) 0 P .any l.toArray Q f listed a w:=by
 have htc:sO l tc=true:=by simp only[jY,Bool.and_eq_true] at hok;exact hok.1.1.1.1.1
 have rdy:∀(listed:Array Bool)(i:Nat),listed.size=l.length->i∈Region.ready .any l.toArray listed->∃o,l[i]? =some o/\Lof listed i=false/\listed[i]? =some false/\∀e∈o.after,Region.binds .any e=true->Lof listed e.on=true:=by
  intro listed i hsz hi;obtain⟨h0,o,ho,hall⟩:=mem_ready.1 hi;have hil:i<listed.size:=by
   rcases Nat.lt_or_ge i listed.size with h|h
   exact h;simp[Array.getD,Nat.not_lt.2 h] at h0
  have h1:listed[i]? =some false:=by rw[Array.getElem?_eq_getElem hil];simp[Array.getD,hil] at h0;rw[h0]
  exact⟨o,by simpa using ho,by simp[Lof,Array.getD_eq_getD_getElem?,h1],h1,λe he hb=>hall e he hb⟩
 have full:∀(listed:Array Bool),listed.size=l.length->Region.ready .any l.toArray listed=[]->Lof listed=λk=>Nat.blt k l.length:=by
  intro listed hsz hr;have key:∀k,k<l.length->Lof listed k=true:=by
   intro k;induction k using Nat.strongRecOn with
   |_ k ih=>
    intro hk;cases hLk:Lof listed k with
    |true=>rfl
    |false=>
     exfalso;have hok':l[k]? =some l[k]:=geG hk;have:k∈Region.ready .any l.toArray listed:=by
      refine mem_ready.2 ⟨?_,l[k],by simp[hk],λe he hb=>?_⟩;have hks:k<listed.size:=oM;simp only[Lof,Array.getD,hks,dif_pos] at hLk⊢;exact hLk;have h1:=List.all_eq_true.1 htc k (List.mem_range.2 hk);simp only[hok',Bool.and_eq_true] at h1;have h2:=List.all_eq_true.1 h1.1 e (Array.mem_toList_iff.2 he);simp only[hb,Bool.not_true,Bool.false_or] at h2;have hlt:e.on<k:=by simpa[Nat.blt_eq] using h2
      exact ih e.on hlt oM
     rw[hr] at this;cases this
  funext k;rcases Nat.lt_or_ge k l.length with h|h
  rw[key k h];simp[Nat.blt_eq,h];have:Lof listed k=false:=by simp[Lof,Array.getD,Nat.not_lt.2 (by omega:listed.size<=k)]
  rw[this];cases hb:Nat.blt k l.length with
  |false=>rfl
  |true=>
    have:k<l.length:=by simpa[Nat.blt_eq] using hb
    omega
 intro f;induction f with
 |zero=>
  intro listed a w hsz hdn hcn hat
  have hr:Region.ready .any l.toArray listed=[]:=by
   cases hr:Region.ready .any l.toArray listed with
   |nil=>rfl
   |cons i r=>obtain⟨o,_,_,h1,_⟩:=rdy listed i hsz (by rw[hr];exact List.mem_cons_self);have:false∈listed.toList:=List.mem_of_getElem? (i:=i) (by simpa using h1);have:=List.count_pos_iff.2 this;omega
  exact⟨hr,hQ a w (full listed hsz hr▸hat)⟩
 |succ f ih=>
  intro listed a w hsz hdn hcn hat
  refine⟨λhr=>hQ a w (full listed hsz hr▸hat),λi hi=>?_⟩;obtain⟨o,ho,hLi,hli,hpre⟩:=rdy listed i hsz hi;have hil:i<listed.size:=(Array.getElem?_eq_some_iff.1 hli).1;have hother:∀j,j≠i->Lof (listed.setIfInBounds i true) j=Lof listed j:=λj hj=>by
   simp only[Lof,Array.getD_eq_getD_getElem?,Array.getElem?_setIfInBounds_ne (Ne.symm hj)]
  have hself:Lof (listed.setIfInBounds i true) i=true:=by simp[Lof,Array.getD_eq_getD_getElem?,hil]
  have hstep:=ul (Q':=Q) hnf (L':=Lof (listed.setIfInBounds i true)) hok hrs (λp hp=>re hobs ho hp) ho hdn (λy hy=>by
   rcases Nat.lt_or_ge y l.length with h|h
   exact h;simp[Lof,Array.getD,Nat.not_lt.2 (by omega:listed.size<=y)] at hy) hLi hpre hother hself hat
  refine wpOpIn_mono (λa' w' hat'=>ih _ a' w' (by simpa using hsz) ?_ ?_ hat') hstep;intro k ok hk hLk e he hb;by_cases hki:k=i;subst hki;rw[ho] at hk;simp only[ay] at hk;subst hk;have:=hpre e he hb;by_cases hei:e.on=k;rw[hei];exact hself;rw[hother _ hei];exact this;rw[hother k hki] at hLk;have:=hdn k ok hk hLk e he hb;by_cases hei:e.on=i;rw[hei];exact hself;rw[hother _ hei];exact this;have:=mi (l:=listed.toList) (i:=i) (by simpa using hli);rw[Array.toList_setIfInBounds];omega
theorem gR{k:Ko}{env:Env}{st:List AO}{id:Nat}(rs:List AV)(tc:List (List Nat))(es:List Nat)(sts:Nat->List AO)(plan:List (List Nat×List Nat×List Nat))(hm:P.follows .mixedOrders=true)
  (hok:jY l tc es plan=true)(hrs:Nat.beq rs.length l.length=true)(hes:es.all (λy=>Nat.blt y l.length)=true)(hst:sts 0=st)(hobs:Obs P e l rs env sts es 0 l plan)
  (h:WE P e .normal k (FL env (λk=>Nat.blt k l.length) (bO l rs 0)) (sts es.length))(hnf:bP l=true:=by kernel_rfl):WC P e (.region id l.toArray true) k env st:=λm φ a w hi=>by
 have hQ:∀a' w',At e l rs env sts es (λk=>Nat.blt k l.length) a' w'->k.den P e .normal a' w':=λa' w' ⟨m',φ',hi'⟩=>by
  rw[wd λy hy=>List.all_eq_true.1 hes y hy] at hi';exact h m' φ' a' w' hi'
 have hz:∀j,Lof (Array.replicate l.toArray.size false) j=false:=λj=>by simp[Lof,Array.getD]
 have hdn:pR l (Lof (Array.replicate l.toArray.size false)):=λk o _ hL=>by rw[hz] at hL;cases hL
 have hat:At e l rs env sts es (Lof (Array.replicate l.toArray.size false)) a { w with drawn:=w.drawn+1 }:=by
  have hc:cnt (Lof (Array.replicate l.toArray.size false)) es=0:=by
   cases es with
   |nil=>rfl
   |cons y es=>grind [cnt]
  have hf:∀reg:List (Nat×Nat×AV),FL env (Lof (Array.replicate l.toArray.size false)) reg=env:=by
   intro reg;induction reg with
   |nil=>rfl
   |cons p reg ih=>grind [FL]
  refine⟨m,φ,?_⟩;rw[hc,hf,hst];exact hi.below ((Below.refl _ _).drew) (hi.env.mono (Pre.refl m) (Fz.refl φ w)) hi.sz rfl
 grind [wpIn_region_any,wr,nbE]
theorem fw{ops:Array Oper}{env:Env}{st' stc:List AO}{o:Oper}{d:Nat}{r:AV}{k:Nat}(hd:o.dst=some d)(hr:rs[k]? =some r)(hst:st'=stc):
  WL P e ops [] ((d,r)::env) st' (λenv' st''=>st''=stc/\∃pre,env'=pre++env/\(∀t x,pre.get t=some x->o.dst=some t)/\∀d' r',o.dst=some d'->rs[k]? =some r'->pre.get d'=some r'):=
 WL.nil ⟨hst,[(d,r)],rfl,λt x hx=>by
  rw[bi] at hx;split at hx;rename_i h;rw[h];exact hd;simp[Env.get] at hx,λd' r' hd' hr'=>by
  rw[hd] at hd';rw[hr] at hr';simp only[ay] at hd' hr';subst hd';subst hr';simp[bi]⟩
theorem ur{ops:Array Oper}{env:Env}{st' stc:List AO}{o:Oper}{d:Nat}{r r0:AV}{k:Nat}(hd:o.dst=some d)(hr:rs[k]? =some r)(hst:st'=stc):
  WL P e ops [] ((d,r)::(d,r0)::env) st' (λenv' st''=>st''=stc/\∃pre,env'=pre++env/\(∀t x,pre.get t=some x->o.dst=some t)/\∀d' r',o.dst=some d'->rs[k]? =some r'->pre.get d'=some r'):=
 WL.nil ⟨hst,[(d,r),(d,r0)],rfl,λt x hx=>by
  rw[bi,bi] at hx;by_cases h:t=d;rw[h];exact hd;simp[h,Env.get] at hx,λd' r' hd' hr'=>by
  rw[hd] at hd';rw[hr] at hr';simp only[ay] at hd' hr';subst hd';subst hr';simp[bi]⟩
theorem dU{ops:Array Oper}{env:Env}{st' stc:List AO}{o:Oper}{k:Nat}(hd:o.dst=none)(hst:st'=stc):
  WL P e ops [] env st' (λenv' st''=>st''=stc/\∃pre,env'=pre++env/\(∀t x,pre.get t=some x->o.dst=some t)/\∀d' r',o.dst=some d'->rs[k]? =some r'->pre.get d'=some r'):=by simp_all [WL.nil,Env.get]
end
end Go.Sk
namespace Go.Sk
open Go.RowKit (Below)
section
variable{P:Program}{e:En}{ops:Array Oper}{l rest:List Oper}{env:Env}{st:List AO}{R:Env->List AO->Prop}{K:Ko}
theorem lm{m φ w}:∀{xs:List AV}{vs:List Value}{i:Nat}{y:AV}{v:Value},RAs m φ w xs vs->vs[i]? =some v->RA m φ w y v->RAs m φ w (xs.set i y) vs
 |[],vs,i,y,v,h,hi,hy=>by simp only[RAs] at h;subst h;simp at hi
 |p::xs,vs,i,y,v,h,hi,hy=>by
  obtain⟨c,cs,rfl,h1,h2⟩:=h;cases i with
  |zero=>grind [bp]
  |succ i=>exact bp h1 (lm h2 (by simpa using hi) hy)
end
end Go.Sk
namespace Go.Sk
open Go.RowKit (Below)
def kr(env:Env)(id ver:Nat):List Nat->Prop
 |[]=>True
 |t::ts=>env.get t=some (.os id ver)/\kr env id ver ts
def fq(x:AV):List (Nat×Nat)->List AO->List AO
 |[],st=>st
 |(i,off)::r,st=>fq x r (match st[i]? with|some (.row T cs)=>st.set i (.row T (cs.set off x))|_=>st)
def jh(st:List AO)(id ver:Nat)(x:AV):List (Nat×Nat)->Prop
 |[]=>True
 |(i,off)::r=>∃T cs,st[i]? =some (.row T cs)/\cs[off]? =some (.os id ver)/\jh (st.set i (.row T (cs.set off x))) id ver x r
theorem kJ{m φ w}{id ver:Nat}{y:Value}{x:AV}(hm:m[id]? =some (.tok ver y))(hx:RA m φ w x y):∀(l:List (Nat×Nat))(st:List AO),SR m φ st w->jh st id ver x l->SR m φ (fq x l st) w
 |[],st,h,_=>h
 |(i,off)::r,st,h,hc=>by
  obtain⟨T,cs,h1,h2,h3⟩:=hc;simp only[fq,h1];refine kJ hm hx r _ ?_ h3;refine h.alter (o:= .row T cs) h1 rfl ?_;rintro c hc2 ⟨b,rfl,q2,vs,q3,q4⟩;obtain⟨v',p1,p2⟩:=cF q4 h2;obtain⟨v0,y0,k1,k2,k3⟩:=p2;rw[hm] at k1;obtain⟨rfl,rfl⟩:=k1;have:=k3 rfl;subst this;exact⟨b,rfl,q2,vs,q3,lm q4 p1 hx⟩
section
variable{P:Program}{e:En}{ops:Array Oper}{l rest:List Oper}{env:Env}{st:List AO}{R:Env->List AO->Prop}{K:Ko}
theorem Inv.freezeX{m φ a w}{id ver T k:Nat}{ds:List (List D)}(ts:List Nat)(cl:List (Nat×Nat))(hi:Inv e m φ env st a w)(hs:st[id]? =some (.os T k ver (ds.map λe=>e.map AV.d)))
  (ht:kr env id ver ts)(hc:jh (st.set id .dead) id ver (.d (.sl ds)) cl):
  ∃φ',Inv e m φ' (ts.map (λt=>(t, .d (.sl ds)))++env) (fq (.d (.sl ds)) cl (st.set id .dead)) a w:=by
 obtain⟨c,hcm⟩:∃c,m[id]? =some c:=by
  have:id<m.length:=by rw[hi.sr.len];exact(giS.1 hs).1
  exact⟨_,geG this⟩
 obtain⟨y,xs,rfl,_⟩:=hi.sr.obj id _ _ hs hcm;obtain⟨φ',f1,f2,f3⟩:=jx hi.sr hs hcm;have h3:=hi.go f1 f2;refine⟨φ',kJ hcm (by simpa[RA] using f3) cl _ h3.sr hc,h3.ev,?_,h3.sz,h3.df⟩;clear hc;refine⟨?_,h3.env.gl⟩;induction ts with
 |nil=>exact h3.env.get
 |cons t ts ih=>
  intro s x hx;simp only[List.map_cons,List.cons_append] at hx;unfold Env.get at hx;cases hb:Nat.beq s t with
  |true=>rw[hb] at hx;simp only[cdT,ay] at hx;subst hx;have:s=t:=nbE hb;subst this;obtain⟨v,g1,g2⟩:=hi.env s _ ht.1;grind [RA]
  |false=>rw[hb] at hx;exact ih ht.2 s x hx
theorem WL.freezeX(ts:List Nat)(cl:List (Nat×Nat))(id:Nat){ver T k:Nat}(ds:List (List D)){es:List (List AV)}(hs:st[id]? =some (.os T k ver es))(hes:es=ds.map λe=>e.map AV.d)(ht:kr env id ver ts)(hc:jh (st.set id .dead) id ver (.d (.sl ds)) cl)
  (h:WL P e ops l (ts.map (λt=>(t, .d (.sl ds)))++env) (fq (.d (.sl ds)) cl (st.set id .dead)) R):WL P e ops l env st R:=λm φ a w hi=>by
 subst hes;obtain⟨φ',hi'⟩:=hi.freezeX ts cl hs ht hc;exact h m φ' a w hi'
theorem WE.freezeX{x:Exit}(ts:List Nat)(cl:List (Nat×Nat))(id:Nat){ver T k:Nat}(ds:List (List D)){es:List (List AV)}(hs:st[id]? =some (.os T k ver es))(hes:es=ds.map λe=>e.map AV.d)(ht:kr env id ver ts)(hc:jh (st.set id .dead) id ver (.d (.sl ds)) cl)
  (h:WE P e x K (ts.map (λt=>(t, .d (.sl ds)))++env) (fq (.d (.sl ds)) cl (st.set id .dead))):WE P e x K env st:=λm φ a w hi=>by
 subst hes;obtain⟨φ',hi'⟩:=hi.freezeX ts cl hs ht hc;exact h m φ' a w hi'
end
def dP(b:Nat)(n:Int):Bool:=decide (0<=n)&&decide ((b:Int)*n<=281474976710656)&&decide (n<=maxLen)
section
variable{P:Program}{env:Env}{st:List AO}{dst:Option Tmp}{ty:TypeId}{pos:String}{after:Array Edge}{guard:Option (Nat×Bool)}
theorem gr(z:Array Value):∀n:Nat,0<z.size->(madeCells z (n*z.size)).toList=(List.replicate n z.toList).flatten
 |0,_=>by simp[madeCells]
 |n+1,hz=>by
  apply List.ext_getElem?;intro j;have ih:=congrArg (λl=>l[j - z.size]?) (gr z n hz);simp only[madeCells,Array.toList_map,Array.toList_range,List.getElem?_map] at ih⊢;rw[List.replicate_succ,List.flatten_cons];by_cases hj:j<z.size;grind [Nat.mod_eq_of_lt];rw[List.getElem?_append_right (by simpa using Nat.le_of_not_lt hj)];simp only[Array.length_toList];rw[<-ih];by_cases hj2:j<(n+1)*z.size;grind [Nat.mod_eq_sub_mod];grind
theorem bj{T e k by_:Nat}{kl kc:IntKind}{n:Int}{x y:Operand}{zs:List Value}(hT:bR P T=some (e,k,by_))(hz:aW P e=some zs)(hzl:zs.length=k)(hk:0<k)
  (hx:opv env x=some (.d (.v (.int kl n))))(hy:opv env y=some (.d (.v (.int kc n))))(hok:dP by_ n=true):
  NewOs P env st ⟨dst, .makeSlice T x y,ty,pos,after,guard⟩ e k (List.replicate n.toNat (zs.map λz=> .d (.v z))):=λm φ a w hs he=>by
 obtain⟨i,ht,hi,rfl,rfl⟩:=eP hT;obtain⟨z,hz1,hz2⟩:=eV hz hi;simp only[dP,Bool.and_eq_true,decide_eq_true_eq] at hok;obtain⟨⟨k0,k1⟩,k2⟩:=hok;have hr:=run_make (P:=P) w T e i z ht hi hz1 kl kc n n k0 (Int.le_refl _) k1 (by simp only[maxLen] at k2;omega);have hzs:z.cells.size=i.size:=by simp_all
 have hfl:(madeCells z.cells (n.toNat*i.size)).toList=(List.replicate n.toNat zs).flatten:=by have:=gr z.cells n.toNat oM;grind
 have hF:=Fz.alloc hs (.cells (madeCells z.cells (n.toNat*i.size)) e);have hkk:∀b,b<w.heap.size->(w.alloc (.cells (madeCells z.cells (n.toNat*i.size)) e)).heap[b]? =w.heap[b]? :=λb hb=>bz hb;have hnew:∀b,(Cz.tok 0 (.slice (some ⟨w.heap.size,0,none⟩) n.toNat n.toNat)).has b->w.heap.size<=b:=by grind [Cz.has,Value.ownBlock]
 refine⟨_,_,by simp only[execOp,aV he hx,aV he hy];rw[Sem.run_bind,hr];rfl,Ev.push hs hF hkk sM rfl rfl rfl hnew,SR.push hs hF hkk sM ?_ hnew,(Below.refl _ _).alloc (Nat.le_refl _) _,λb hb=>by simp only[Value.ownBlock,ay] at hb;omega⟩;have hl2:(List.replicate n.toNat zs).flatten.length=n.toNat*i.size:=by simp_all
 have hras:∀j:Nat,RAs (m++ [Cz.tok 0 (.slice (some ⟨w.heap.size,0,none⟩) n.toNat n.toNat)]) φ (w.alloc (.cells (madeCells z.cells (n.toNat*i.size)) e)) (List.replicate j (zs.map λz=>AV.d (.v z))).flatten (List.replicate j zs).flatten:=by
  intro j;induction j with
  |zero=>exact cf
  |succ j ih=>grind [ba,d7]
 refine⟨_,(List.replicate n.toNat zs).flatten,rfl,⟨by rw[hl2];simp, .inr ⟨w.heap.size,n.toNat,_,sM,Nat.zero_le _,heap_alloc_new w _,sM,oM,size_madeCells _ _,?_⟩⟩,hras _,λf hf=>?_,λb hb=>?_⟩;grind;simp_all;simp only[Value.ownBlock,ay] at hb;exact hs.lt b oM
theorem NewOs.cast{o:Oper}{T k:Nat}{es es':List (List AV)}(h:NewOs P env st o T k es)(he:es=es'):NewOs P env st o T k es':=he▸h
def ELes:List (List AV)->List (List AV)->Prop
 |[],[]=>True
 |x::xs,y::ys=>Les x y/\ELes xs ys
 |_,_=>False
theorem ELes.len:∀{xs ys:List (List AV)},ELes xs ys->xs.length=ys.length
 |[],[],_=>rfl
 |x::xs,y::ys,h=>by simp[ELes.len h.2]
 |[],_::_,h=>h.elim
 |_::_,[],h=>h.elim
theorem Les.len:∀{xs ys:List AV},Les xs ys->xs.length=ys.length
 |[],[],_=>rfl
 |x::xs,y::ys,h=>by simp[Les.len h.2]
 |[],_::_,h=>h.elim
 |_::_,[],h=>h.elim
theorem Les.append:∀{xs ys us vs:List AV},Les xs ys->Les us vs->Les (xs++us) (ys++vs)
 |[],[],_,_,_,k=>k
 |_x::_xs,_y::_ys,_,_,h,k=>⟨h.1,Les.append h.2 k⟩
 |[],_::_,_,_,h,_=>h.elim
 |_::_,[],_,_,h,_=>h.elim
theorem ELes.flat:∀{xs ys:List (List AV)},ELes xs ys->Les xs.flatten ys.flatten
 |[],[],_=>trivial
 |_x::_xs,_y::_ys,h=>Les.append h.1 (ELes.flat h.2)
 |[],_::_,h=>h.elim
 |_::_,[],h=>h.elim
theorem ELes.lens{k:Nat}:∀{xs ys:List (List AV)},ELes xs ys->(∀e∈xs,e.length=k)->∀e∈ys,e.length=k
 |[],[],_,_=>λe he=>by simp at he
 |x::xs,y::ys,h,hk=>λe he=>by
  rcases List.mem_cons.1 he with rfl|he
  rw[<-Les.len h.1];exact hk x sM;exact ELes.lens h.2 (λe he=>hk e (by simp[he])) e he
 |[],_::_,h,_=>h.elim
 |_::_,[],h,_=>h.elim
theorem NewOs.weak{o:Oper}{T k:Nat}{es es':List (List AV)}(h:NewOs P env st o T k es)(he:ELes es es'):NewOs P env st o T k es':=λm φ a w hs hE=>by
 obtain⟨v,w',h1,h2,h3,h4⟩:=h m φ a w hs hE;refine⟨v,w',h1,h2,?_,h4⟩;have:=h3.alter (id:=st.length) (o:= .os T k 0 es) (o':= .os T k 0 es') sM rfl (λc _=>?_);simpa using this;rintro⟨y,xs,r1,r2,r3,r4,r5⟩;exact⟨y,xs,r1,by rw[<-he.len];exact r2,(Les.ras he.flat) r3,he.lens r4,r5⟩
theorem cr{α:Type}{R:α->List D}{z:α}{zs:List AV}(h:Les zs (bg R z)):∀n:Nat,ELes (List.replicate n zs) ((List.replicate n z).map (bg R))
 |0=>trivial
 |n+1=>⟨h,cr h n⟩
theorem bv{α:Type}{R:α->List D}{n:Nat}{z:α}{zs:List Value}(h:bg R z=zs.map λz=> .d (.v z)):List.replicate n (zs.map λz=>AV.d (.v z))=(List.replicate n z).map (bg R):=by rw[List.map_replicate,h]
end
end Go.Sk
namespace Go.Sk
open Go.RowKit (Below)
theorem pn{m φ st w}{id:Nat}{T k ver b len cap:Nat}{es es':List (List AV)}{vs:List Value}(hs:SR m φ st w)(hi:st[id]? =some (.os T k ver es))(hb:m[id]? =some (.tok ver (.slice (some ⟨b,0,none⟩) len cap)))
  (h:RAs m φ w es'.flatten vs)(hl:es'.length=es.length)(hk:∀e∈es',e.length=k)(cur:Array Value)(hcur:w.heap[b]? =some (.cells cur T (0,0)))(new:Array Value)(hsz:new.size=cur.size)(htk:new.toList.take (es.length*k)=vs):
  Ev m φ w m φ (w.setRow b new)/\SR m φ (st.set id (.os T k ver es')) (w.setRow b new):=by
 obtain⟨y,xs,e1,g1,g2,g3,g4⟩:=hs.obj id _ _ hi hb;simp only[Cz.tok.injEq,true_and] at e1;subst e1;have h0:φ b=0:=g4 b rfl;have hF:Fz φ w φ (w.setRow b new):=λb2 off c q1 q2=>⟨q1,by
  have hne:b2≠b:=λe=>by subst e;omega
  rw[cZ (cJ hne)];exact q2⟩
 have hsize:(w.setRow b new).heap.size=w.heap.size:=size_setRow w b _;refine⟨⟨Pre.refl m,λ_ h=> .inl h,rfl,rfl,rfl,by rw[hsize];exact Nat.le_refl _,λb2 hb2 hn=>⟨cJ (λe=>hn ⟨id,_,hb,by rw[e];rfl⟩),rfl⟩,hF⟩,⟨by simp[hs.len],λi o c q1 q2=>?_,λb2 hb2=>hs.lt b2 oM,λi j o o' c c' b2 q1 q2 l1 l2 k1 k2 e1 e2=>?_,hs.gl.mono hF,λb2 hb2=>by rw[hsize];exact hs.nb b2 hb2⟩⟩;by_cases hii:i=id;subst hii;rw[List.getElem?_set_self (dD hi)] at q1;rw[hb] at q2;simp only[ay] at q1 q2;subst q1;subst q2;refine⟨_,vs,rfl,?_,RAs.mono (Pre.refl m) hF _ _ h,hk,g4⟩;obtain⟨r1,r2⟩:=g1;have hvl:vs.length=es.length*k:=by
  have:=a9 h;rw[this];clear this h htk;have:∀l:List (List AV),(∀e∈l,e.length=k)->l.flatten.length=l.length*k:=by
   intro l;induction l with
   |nil=>simp
   |cons x l ih=>intro hh;simp only[List.flatten_cons,List.length_append,List.length_cons,ih (λe he=>hh e (by simp[he])),hh x sM,Nat.succ_mul];omega
  rw[this es' hk,hl]
 rcases r2 with⟨hv,_⟩|⟨g,cap',cur',hv,p1,p2,p3,p4,p5,p6⟩
 cases hv;simp only[Value.slice.injEq,ay,Addr.mk.injEq,and_true] at hv;obtain⟨rfl,rfl,rfl⟩:=hv;rw[hcur] at p2;simp only[ay,Obj.cells.injEq,and_true] at p2;subst p2;rw[hl];exact⟨hvl, .inr ⟨b,cap,new,rfl,p1,setRow_heap w b _ _ T (0,0) hcur,p3,p4,by rw[hsz];exact p5,htk⟩⟩;rw[List.getElem?_set_ne (Ne.symm hii)] at q1;have h:=hs.obj i o c q1 q2;cases hl:o.live with
 |true=>refine h.congr (Pre.refl m) hF (λb2 hb2=>⟨cJ λe=>?_,rfl⟩);subst e;exact hii (hs.inj i id o _ c _ b2 q1 hi hl rfl q2 hb hb2 rfl)
 |false=>cases o<;>first|trivial|exact h|(simp[AO.live] at hl;done)
 have back:∀(i:Nat)(o:AO),(st.set id (.os T k ver es'))[i]? =some o->o.live=true->∃o2,st[i]? =some o2/\o2.live=true:=by intro i o g l;by_cases hii:i=id;subst hii;exact⟨_,hi,rfl⟩;rw[List.getElem?_set_ne (Ne.symm hii)] at g;exact⟨o,g,l⟩
 obtain⟨p,p1,p2⟩:=back i o q1 l1;obtain⟨q,u1,u2⟩:=back j o' q2 l2;exact hs.inj i j p q c c' b2 p1 u1 p2 u2 k1 k2 e1 e2
section
variable{P:Program}{env:Env}{st:List AO}{dst:Option Tmp}{ty:TypeId}{pos:String}{after:Array Edge}{guard:Option (Nat×Bool)}
theorem pF{T:TypeId}{x y:Operand}{id ver off n T' k:Nat}{es es':List (List AV)}{r0 r:AV}{rs:List AV}(hx:opv env x=some (.pe id ver off))(hs:st[id]? =some (.os T' k ver es))(hy:opv env y=some r0)(hle:Le r0 r)(hk:r.okc=true)(hc:r.cells=rs)(hk1:rs.all AV.ok1=true)
  (hn:bt P T=some n)(hl:rs.length=n)(hlen:off+n<=es.flatten.length)(hes:es'.flatten=es.flatten.take off++rs++es.flatten.drop (off+n))(hel:es'.length=es.length)(hek:∀e∈es',e.length=k):
  Does P env st ⟨dst, .store T x y,ty,pos,after,guard⟩ (.d (.v undef)) (st.set id (.os T' k ver es')):=λm φ a w hsr he=>by
 obtain⟨b,len,cap,xs,g1,g2,g3,g4,g5,g6⟩:=jq hsr he hx hs;obtain⟨us,q1,q2⟩:=bK (hle _ _ _ _ (bd he hy)) hk;rw[hc] at q2;have hul:=a9 q2;have hxl:=a9 g4;obtain⟨r1,r2⟩:=g3;rcases r2 with⟨hv,_⟩|⟨g,cap',cur,hv,p1,p2,p3,p4,p5,p6⟩
 cases hv;simp only[Value.slice.injEq,ay,Addr.mk.injEq,and_true] at hv;obtain⟨rfl,rfl,rfl⟩:=hv;have hcl:es.length*k<=cur.size:=by rw[p5];exact Nat.mul_le_mul_right _ p3
 have hfl:es.flatten.length=es.length*k:=oM;have hst:=run_storeCells_at P b off T' us 0 cur w p2 oM (kq q2 hk1);simp only[Nat.add_zero,hul,hl] at hst;have hsize:us.length=n:=oM;have hnew:RAs m φ w es'.flatten (xs.take off++us++xs.drop (off+n)):=by rw[hes];exact ba (ba (cq off g4) q2) (cx _ g4)
 have htk:((cur.toList.take off++us++cur.toList.drop (off+n)).toArray.toList).take (es.length*k)=xs.take off++us++xs.drop (off+n):=by rw[<-p6];apply List.ext_getElem?;intro j;have hcz:cur.toList.length=cur.size:=sM;simp only[List.getElem?_take,List.getElem?_append,List.length_append,List.length_take,List.getElem?_drop,hsize,hcz];rw[Nat.min_eq_left (show off<=cur.size by omega),Nat.min_eq_left (show es.length*k<=cur.size by omega),Nat.min_eq_left (show off<=es.length*k by omega)];by_cases h1:j<es.length*k;rw[if_pos h1];by_cases h2:j<off+n;rw[if_pos h2,if_pos h2];by_cases h3:j<off;simp only[if_pos h3,if_pos h1];simp only[if_neg h3];rw[if_neg h2,if_neg h2];have:off+n+(j - (off+n))=j:=oM;rw[this,if_pos h1];rw[if_neg h1,if_neg (show¬j<off+n by omega)];have:off+n+(j - (off+n))=j:=oM;rw[this,if_neg h1]
 obtain⟨k1,k2⟩:=pn hsr hs g1 hnew hel hek cur p2 (cur.toList.take off++us++cur.toList.drop (off+n)).toArray (by simp[hsize];omega) htk;refine⟨undef,_,m,φ, .inr ⟨?_,rfl⟩,k1,k2,RAv⟩;simp[execOp,Instr.storeAt,Instr.sureAddr,g2,storeVar,q1,aP hn,hsize,hst]
theorem nf{α:Type}{R:α->List D}{k:Nat}(hR:∀x,(R x).length=k):∀{L:List α}{i:Nat}{x:α},L[i]? =some x->∃l1 l2,(L.map (bg R)).flatten=l1++bg R x++l2/\l1.length=i*k/\∀z,((L.set i z).map (bg R)).flatten=l1++bg R z++l2
 |[],i,x,h=>by simp at h
 |y::L,0,x,h=>by
  simp only[List.getElem?_cons_zero,ay] at h;subst h;exact⟨[],(L.map (bg R)).flatten,sM,sM,λz=>sM⟩
 |y::L,i+1,x,h=>by
  simp only[List.getElem?_cons_succ] at h;obtain⟨l1,l2,h1,h2,h3⟩:=nf hR h;refine⟨bg R y++l1,l2,by simp[h1],?_,λz=>?_⟩;rw[List.length_append,h2,bg,List.length_map,hR,Nat.succ_mul];omega;simp only[List.set_cons_succ,List.map_cons,List.flatten_cons,h3 z,List.append_assoc]
theorem fc{T n:Nat}{bb:Bool}{x ix:Operand}{id ver T' k:Nat}{α:Type}{R:α->List D}{L:List α}{kk:IntKind}{i:Int}{z:α}(hT:aZ P T=some (n,bb))(hx:opv env x=some (.os id ver))(hs:st[id]? =some (.os T' k ver (L.map (bg R))))(hi:opv env ix=some (.d (.v (.int kk i))))(h:idx L i=some z):
  Yields P env st ⟨dst, .indexAddr T x ix,ty,pos,after,guard⟩ (.pe id ver (i.toNat*n)):=
 ao hT hx hs hi (aL h) (by rw[List.length_map];exact mW h)
theorem ai{S i fo n:Nat}{bb:Bool}{x:Operand}{id ver off T k:Nat}{es:List (List AV)}(hf:aF P S i=some (fo,n+1,bb))(hx:opv env x=some (.pe id ver off))(hs:st[id]? =some (.os T k ver es)):Yields P env st ⟨dst, .fieldAddr S x i,ty,pos,after,guard⟩ (.pe id ver (off+fo)):=λm φ a w hsr he=>by
 obtain⟨b,len,cap,xs,g1,g2,_⟩:=jq hsr he hx hs;exact⟨_,by simp only[RA];exact⟨_,_,g1,Nat.le_refl _,λ_=>⟨b,len,cap,rfl,rfl⟩⟩,λw' _=>by simp[execOp,g2,gj hf]⟩
theorem aj{T:TypeId}{x:Operand}{id ver off fo T' k:Nat}{α:Type}{R:α->List D}{L:List α}{i:Int}{z:α}{r:AV}(hx:opv env x=some (.pe id ver off))(hoff:off=i.toNat*k+fo)(hs:st[id]? =some (.os T' k ver (L.map (bg R))))(hT:a8 P T=some false)(hR:∀x,(R x).length=k)(hi:idx L i=some z)(hr:(bg R z)[fo]? =some r):
  Yields P env st ⟨dst, .load T x,ty,pos,after,guard⟩ r:=by
 refine aH hx hs hT ?_;subst hoff;obtain⟨l1,l2,h1,h2,_⟩:=nf hR (eZ hi);have hlt:=dD hr;rw[h1,List.getElem?_append_left (by rw[List.length_append];omega),List.getElem?_append_right oM,h2];rw[show i.toNat*k+fo - i.toNat*k=fo from by omega,hr]
theorem au{T:TypeId}{x y:Operand}{id ver off fo n T' k:Nat}{α:Type}{R:α->List D}{L:List α}{i:Int}{z:α}(z':α){r0 r:AV}{rs:List AV}(hx:opv env x=some (.pe id ver off))(hoff:off=i.toNat*k+fo)(hs:st[id]? =some (.os T' k ver (L.map (bg R))))(hy:opv env y=some r0)(hle:Le r0 r)(hk:r.okc=true)(hc:r.cells=rs)(hk1:rs.all AV.ok1=true)
  (hn:bt P T=some n)(hl:rs.length=n)(hR:∀x,(R x).length=k)(hi:idx L i=some z)(hrl:Nat.ble (fo+n) k=true)(hz':bg R z'=(bg R z).take fo++rs++(bg R z).drop (fo+n)):
  Does P env st ⟨dst, .store T x y,ty,pos,after,guard⟩ (.d (.v undef)) (st.set id (.os T' k ver ((L.set i.toNat z').map (bg R)))):=by
 subst hoff;obtain⟨l1,l2,h1,h2,h3⟩:=nf hR (eZ hi);have hle2:=nbT hrl;have hz:(bg R z).length=k:=by rw[bg,List.length_map,hR]
 refine pF hx hs hy hle hk hc hk1 hn hl (by rw[h1];simp only[List.length_append];omega) ?_ sM (λe he=>by obtain⟨x,_,rfl⟩:=List.mem_map.1 he;rw[bg,List.length_map,hR]);have e1:(l1++bg R z++l2).take (i.toNat*k+fo)=l1++(bg R z).take fo:=by rw[List.append_assoc,List.take_append,List.take_of_length_le oM,h2,show i.toNat*k+fo - i.toNat*k=fo from by omega,List.take_append_of_le_length oM]
 have e2:(l1++bg R z++l2).drop (i.toNat*k+fo+n)=(bg R z).drop (fo+n)++l2:=by rw[List.append_assoc,List.drop_append,List.drop_eq_nil_of_le oM,h2,show i.toNat*k+fo+n - i.toNat*k=fo+n from by omega,List.nil_append,List.drop_append_of_le_length oM]
 rw[h1,h3,hz',e1,e2];simp[List.append_assoc]
end
end Go.Sk
namespace Go.Sk
open Go.RowKit (Below)
inductive LK where
 |int(k:IntKind)
 |bool
 |str
def LK.fits:LK->Value->Bool
 | .int k, .int k' _=>decide (k=k')
 | .bool, .bool _=>true
 | .str, .string _=>true
 |_,_=>false
def bZ:List LK->List Value->Bool
 |[],[]=>true
 |k::ks,v::vs=>k.fits v&&bZ ks vs
 |_,_=>false
def kZ:Value->Value->Bool
 | .int _ a, .int _ b=>decide (a=b)
 | .bool a, .bool b=>a==b
 | .string a, .string b=>a.toList==b.toList
 |_,_=>false
def eqL:List Value->List Value->Bool
 |[],[]=>true
 |x::xs,y::ys=>kZ x y&&eqL xs ys
 |_,_=>false
mutual
def iQ(P:Program):Nat->TypeId->Option (List LK)
 |0,_=>none
 |d+1,T=>match P.underlying T with
  |some (.int k)=>some [.int k]
  |some .bool=>some [.bool]
  |some .string=>some [.str]
  |some (.struct fs)=>if P.stoodInHeld T then none else leafF P d fs.toList 0
  |some (.array n e)=>match iQ P d e,bt P e with
   |some ks,some m=>if ks.length=m/\(a8 P e=some true\/(a8 P e=some false/\m=1)) then some (List.replicate n ks).flatten else none
   |_,_=>none
  |_=>none
def leafF(P:Program):Nat->List Field->Nat->Option (List LK)
 |_,[],_=>some []
 |0,_::_,_=>none
 |d+1,f::fs,off=>if f.name≠ "_"/\f.offset=off then
   match iQ P d f.type,bt P f.type with
   |some ks,some n=>if ks.length=n/\(a8 P f.type=some true\/(a8 P f.type=some false/\n=1)) then(leafF P d fs (off+n)).map (ks++·) else none
   |_,_=>none
  else none
end
theorem cK:∀{ks:List LK}{vs:List Value},bZ ks vs=true->vs.length=ks.length
 |[],[],_=>rfl
 |k::ks,v::vs,h=>by simp only[bZ,Bool.and_eq_true] at h;simp[cK h.2]
 |[],_::_,h=>by simp[bZ] at h
 |_::_,[],h=>by simp[bZ] at h
theorem eG:∀{ks ls:List LK}{vs:List Value},bZ (ks++ls) vs=true->bZ ks (vs.take ks.length)=true/\bZ ls (vs.drop ks.length)=true
 |[],ls,vs,h=>by simpa[bZ] using h
 |k::ks,ls,[],h=>by simp[bZ] at h
 |k::ks,ls,v::vs,h=>by
  simp only[List.cons_append,bZ,Bool.and_eq_true] at h;obtain⟨h1,h2⟩:=eG h.2;grind [bZ]
theorem is:∀{xs ys us vs:List Value},xs.length=ys.length->eqL (xs++us) (ys++vs)=(eqL xs ys&&eqL us vs)
 |[],[],us,vs,_=>by simp[eqL]
 |x::xs,y::ys,us,vs,h=>by simp only[List.cons_append,eqL,is (xs:=xs) (ys:=ys) (by simpa using h),Bool.and_assoc]
 |[],_::_,_,_,h=>by simp at h
 |_::_,[],_,_,h=>by simp at h
def fS:TypeDesc->Bool| .struct _=>true| .array _ _=>true|_=>false
theorem lb{P:Program}{T:TypeId}{u:TypeDesc}(hu:P.underlying T=some u):a8 P T=some (fS u):=by unfold a8;rw[hu];cases u<;>rfl
theorem ek{P:Program}{T:TypeId}{b:Bool}(h:a8 P T=some b)(w:World):(isAgg T).run P w= .ok b w:=by
 unfold a8 at h;cases hu:P.underlying T with
 |none=>simp[hu] at h
 |some u=>simp only[hu,Option.map_some,ay] at h;subst h;simp only[isAgg,Sem.run_bind,run_underlying hu,Result.andThen_ok];cases u<;>simp
theorem gi{P:Program}{T:TypeId}{n:Nat}(h:bt P T=some n)(w:World):(sizeOf T).run P w= .ok n w:=by
 unfold bt at h;cases hi:P.info? T with
 |none=>simp[hi] at h
 |some i=>simp_all [h,sizeOf,typeInfo]
def blk(n:Nat)(l:List Value)(i:Nat):List Value:=(l.drop (i*n)).take n
theorem jy{ks:List LK}:∀{m:Nat}{xs:List Value},bZ (List.replicate m ks).flatten xs=true->∀i,i<m->bZ ks (blk ks.length xs i)=true
 |0,_,_,i,hi=>oM
 |m+1,xs,h,i,hi=>by
  obtain⟨h1,h2⟩:=eG h;cases i with
  |zero=>grind [blk]
  |succ i=>have:=jy h2 i oM;grind [blk,List.drop_drop]
theorem q9:∀(m n:Nat)(xs ys:List Value),xs.length=m*n->ys.length=m*n->((List.range m).all λi=>eqL (blk n xs i) (blk n ys i))=eqL xs ys
 |0,n,xs,ys,h1,h2=>by
  rw[Nat.zero_mul] at h1 h2;rw[List.eq_nil_of_length_eq_zero h1,List.eq_nil_of_length_eq_zero h2];rfl
 |m+1,n,xs,ys,h1,h2=>by
  rw[Nat.succ_mul] at h1 h2;have ih:=q9 m n (xs.drop n) (ys.drop n) (by rw[List.length_drop];omega) (by rw[List.length_drop];omega);have e:∀(l:List Value)(i:Nat),blk n l (i+1)=blk n (l.drop n) i:=λl i=>by
   unfold blk;rw[List.drop_drop,Nat.succ_mul,Nat.add_comm]
  rw[List.range_succ_eq_map,List.all_cons,List.all_map];simp only[Function.comp_def,e,Nat.succ_eq_add_one,ih];have e0:∀l:List Value,blk n l 0=l.take n:=by grind [blk]
  rw[e0,e0];conv=>rhs;rw[<-List.take_append_drop n xs,<-List.take_append_drop n ys]
  rw[is (by rw[List.length_take,List.length_take];omega)]
theorem j9{P:Program}(w:World)(n:Nat)(t e:TypeId)(m sz:Nat)(ks:List LK)(ht:P.underlying t=some (.array m e))(hsz:bt P e=some sz)(hlen:ks.length=sz)(hag:a8 P e=some true\/(a8 P e=some false/\sz=1))
  (ih:∀xs ys,bZ ks xs=true->bZ ks ys=true->(a8 P e=some true->(Op.equalIn n e (.agg ⟨xs⟩) (.agg ⟨ys⟩)).run P w= .ok (eqL xs ys) w)/\(a8 P e=some false->∀x y,xs=[x]->ys=[y]->(Op.equalIn n e x y).run P w= .ok (eqL xs ys) w))
  (xs ys:List Value)(h1:bZ (List.replicate m ks).flatten xs=true)(h2:bZ (List.replicate m ks).flatten ys=true):
  (Op.equalIn (n+1) t (.agg ⟨xs⟩) (.agg ⟨ys⟩)).run P w= .ok (eqL xs ys) w:=by
 have hfl:(List.replicate m ks).flatten.length=m*sz:=by rw[List.length_flatten,List.map_replicate,List.sum_replicate_nat,hlen]
 have lx:xs.length=m*sz:=by rw[<-hfl];exact cK h1
 have ly:ys.length=m*sz:=by rw[<-hfl];exact cK h2
 rw[<-q9 m sz xs ys lx ly,List.range_eq_range',Op.equalIn];simp only[Sem.run_bind,run_underlying ht,Result.andThen_ok,gi hsz,Std.Legacy.Range.forIn_eq_forIn_range',Std.Legacy.Range.size,Nat.sub_zero,Nat.add_sub_cancel,Nat.div_one];have hl:∀i∈List.range' 0 m 1,i<m:=by grind
 generalize List.range' 0 m 1=l at hl⊢;induction l with
 |nil=>simp
 |cons i l ih2=>
  have hi:i<m:=hl i sM;have hbnd:i*sz+sz<=m*sz:=by
   calc i*sz+sz=(i+1)*sz:=by rw[Nat.succ_mul]
    _<=m*sz:=Nat.mul_le_mul_right _ hi
  have f1:=jy h1 i hi;have f2:=jy h2 i hi;rw[hlen] at f1 f2;obtain⟨i1,i2⟩:=ih _ _ f1 f2;have key:∀zs:List Value,zs.length=m*sz->(part e ⟨zs⟩ (i*sz)).run P w= .ok (if a8 P e=some true then .agg ⟨blk sz zs i⟩ else((zs.drop (i*sz))[0]?).getD undef) w:=by
   intro zs hz;rcases hag with hag|⟨hag,hm1⟩
   rw[if_pos hag];simp only[part,Sem.run_bind,ek hag,Result.andThen_ok,if_true,gi hsz,Sem.run_pure];congr 2;apply Array.toList_inj.mp;simp[List.extract_eq_take_drop,blk];rw[if_neg (by rw[hag];simp)];simp only[part,Sem.run_bind,ek hag,Result.andThen_ok,Bool.false_eq_true,if_false];have:i*sz<zs.length:=oM;simp[this]
  have pe:(Op.equalIn n e (if a8 P e=some true then .agg ⟨blk sz xs i⟩ else((xs.drop (i*sz))[0]?).getD undef) (if a8 P e=some true then .agg ⟨blk sz ys i⟩ else((ys.drop (i*sz))[0]?).getD undef)).run P w= .ok (eqL (blk sz xs i) (blk sz ys i)) w:=by
   rcases hag with hag|⟨hag,hm1⟩
   rw[if_pos hag,if_pos hag];exact i1 hag;rw[if_neg (by rw[hag];simp),if_neg (by rw[hag];simp)];have ex:∀zs:List Value,zs.length=m*sz->blk sz zs i=[((zs.drop (i*sz))[0]?).getD undef]:=by intro zs hz;have:i*sz<zs.length:=oM;unfold blk;subst hm1;rw[List.drop_eq_getElem_cons this];rfl
   exact i2 hag _ _ (ex xs lx) (ex ys ly)
  simp only[List.forIn_cons,Sem.run_bind,key xs lx,key ys ly,pe,Result.andThen_ok,List.all_cons];cases hb:eqL (blk sz xs i) (blk sz ys i);simp;simp only[Bool.not_true,Bool.false_eq_true,if_false,Sem.run_pure,Result.andThen_ok,Bool.true_and];exact ih2 λj hj=>hl j (by simp[hj])
theorem dN{P:Program}(w:World):∀(d:Nat),
  (∀(T:TypeId)(ks:List LK)(n:Nat)(xs ys:List Value),iQ P d T=some ks->d<=n->bZ ks xs=true->bZ ks ys=true->
   (a8 P T=some true->(Op.equalIn n T (.agg ⟨xs⟩) (.agg ⟨ys⟩)).run P w= .ok (eqL xs ys) w)/\
   (a8 P T=some false->∀x y,xs=[x]->ys=[y]->(Op.equalIn n T x y).run P w= .ok (eqL xs ys) w))/\
  (∀(fs:List Field)(off:Nat)(ks:List LK)(n:Nat)(xs ys:List Value),leafF P d fs off=some ks->d<=n->bZ ks (xs.drop off)=true->bZ ks (ys.drop off)=true->xs.length=ys.length->
   (Op.eqFields n ⟨xs⟩ ⟨ys⟩ fs).run P w= .ok (eqL (xs.drop off) (ys.drop off)) w)
 |0=>by
  constructor;intro T ks n xs ys h;simp[iQ] at h;intro fs off ks n xs ys h hn h1 h2 hl;cases fs with
  |nil=>simp only[leafF,ay] at h;subst h;have a1:=cK h1;have a2:=cK h2;rw[List.eq_nil_of_length_eq_zero a1,List.eq_nil_of_length_eq_zero a2];simp[Op.eqFields,eqL]
  |cons f fs=>simp[leafF] at h
 |d+1=>by
  obtain⟨ihK,ihF⟩:=dN w d;constructor;intro T ks n xs ys h hn h1 h2;obtain⟨n,rfl⟩:∃n',n=n'+1:=⟨n - 1,oM⟩;simp only[iQ] at h;cases hu:P.underlying T with
  |none=>simp[hu] at h
  |some u=>
   rw[hu] at h;have hag:=lb hu;cases u with
   |int k=>simp only[ay] at h;subst h;refine⟨λh=>by simp[hag,fS] at h,λ_ x y hx hy=>?_⟩;subst hx;subst hy;simp only[bZ,Bool.and_true] at h1 h2;cases x<;>simp only[LK.fits,Bool.false_eq_true] at h1;cases y<;>simp only[LK.fits,Bool.false_eq_true] at h2;simp only[decide_eq_true_eq] at h1 h2;subst h1;subst h2;rw[run_equalIn_int w n T _ k _ _ hu];simp[eqL,kZ,Int.beq_dec]
   |bool=>simp only[ay] at h;subst h;refine⟨λh=>by simp[hag,fS] at h,λ_ x y hx hy=>?_⟩;subst hx;subst hy;simp only[bZ,Bool.and_true] at h1 h2;cases x<;>simp only[LK.fits,Bool.false_eq_true] at h1;cases y<;>simp only[LK.fits,Bool.false_eq_true] at h2;rw[run_equalIn_bool' w n T _ _ hu];simp[eqL,kZ]
   |string=>simp only[ay] at h;subst h;refine⟨λh=>by simp[hag,fS] at h,λ_ x y hx hy=>?_⟩;subst hx;subst hy;simp only[bZ,Bool.and_true] at h1 h2;cases x<;>simp only[LK.fits,Bool.false_eq_true] at h1;cases y<;>simp only[LK.fits,Bool.false_eq_true] at h2;rw[run_equalIn_string w n T _ _ hu];simp[eqL,kZ]
   |struct fs=>
    simp only at h;split at h;cases h;rename_i hst;refine⟨λ_=>?_,λh=>by simp[hag,fS] at h⟩;have hf:P.fieldsOf T=fs:=by simp[Program.fieldsOf,hu]
    rw[run_equalIn_struct w n T ⟨xs⟩ ⟨ys⟩ (by rw[hf,hu]) (by simpa using hst),hf];have:=ihF fs.toList 0 ks n xs ys h oM (by simpa using h1) (by simpa using h2) (by rw[cK h1,cK h2]);simpa using this
   |array m e=>simp only at h;split at h;rename_i ks1 sz hk hsz;split at h;rename_i hc;simp only[ay] at h;subst h;refine⟨λ_=>?_,λh=>by simp[hag,fS] at h⟩;exact j9 w n T e m sz ks1 hu hsz hc.1 hc.2 (λxs ys f1 f2=>ihK e ks1 n xs ys hk oM f1 f2) xs ys h1 h2;cases h;cases h
   |_=>simp at h
  intro fs off ks n xs ys h hn h1 h2 hl;cases fs with
  |nil=>simp only[leafF,ay] at h;subst h;have a1:=cK h1;have a2:=cK h2;rw[List.eq_nil_of_length_eq_zero a1,List.eq_nil_of_length_eq_zero a2];simp[Op.eqFields,eqL]
  |cons f fs=>
   simp only[leafF] at h;split at h;rename_i hc;obtain⟨hname,hoff⟩:=hc;split at h;rename_i ks1 m hk1 hm;split at h;rename_i hc2;obtain⟨hlen,hag⟩:=hc2;obtain⟨ks2,hks2,rfl⟩:=Option.map_eq_some_iff.1 h;obtain⟨f1,f2⟩:=eG h1;obtain⟨g1,g2⟩:=eG h2;have lx:=cK h1;have ly:=cK h2;simp only[List.length_append,List.length_drop] at lx ly;have key:∀zs:List Value,zs.length=xs.length->(part f.type ⟨zs⟩ f.offset).run P w= .ok (if a8 P f.type=some true then .agg ⟨(zs.drop off).take m⟩ else((zs.drop off)[0]?).getD undef) w:=by
    intro zs hz;rcases hag with hag|⟨hag,hm1⟩
    rw[if_pos hag];simp only[part,Sem.run_bind,ek hag,Result.andThen_ok,if_true,gi hm,Sem.run_pure];rw[hoff];congr 2;apply Array.toList_inj.mp;simp[List.extract_eq_take_drop];rw[if_neg (by rw[hag];simp)];simp only[part,Sem.run_bind,ek hag,Result.andThen_ok,Bool.false_eq_true,if_false];have:off<zs.length:=oM;simp[hoff,this]
   have hmain:(Op.equalIn n f.type (if a8 P f.type=some true then .agg ⟨(xs.drop off).take m⟩ else((xs.drop off)[0]?).getD undef) (if a8 P f.type=some true then .agg ⟨(ys.drop off).take m⟩ else((ys.drop off)[0]?).getD undef)).run P w= .ok (eqL ((xs.drop off).take m) ((ys.drop off).take m)) w:=by
    obtain⟨i1,i2⟩:=ihK f.type ks1 n _ _ hk1 oM f1 g1;rw[hlen] at i1 i2;rcases hag with hag|⟨hag,hm1⟩
    rw[if_pos hag,if_pos hag];exact i1 hag;rw[if_neg (by rw[hag];simp),if_neg (by rw[hag];simp)];have ex:∀zs:List Value,zs.length=xs.length->(zs.drop off).take m=[((zs.drop off)[0]?).getD undef]:=by intro zs hz;have:off<zs.length:=oM;subst hm1;rw[List.drop_eq_getElem_cons this];rfl
    exact i2 hag _ _ (ex xs rfl) (ex ys hl.symm)
   have hrest:=ihF fs (off+m) ks2 n xs ys hks2 oM (by rw[List.drop_drop,hlen] at f2;exact f2) (by rw[List.drop_drop,hlen] at g2;exact g2) hl;have hsplit:eqL (xs.drop off) (ys.drop off)=(eqL ((xs.drop off).take m) ((ys.drop off).take m)&&eqL (xs.drop (off+m)) (ys.drop (off+m))):=by
    conv=>lhs;rw[<-List.take_append_drop m (xs.drop off),<-List.take_append_drop m (ys.drop off)]
    rw[is (by simp only[List.length_take,List.length_drop];omega),List.drop_drop,List.drop_drop]
   simp only[Op.eqFields,if_pos hname,Sem.run_bind,key xs rfl,key ys hl.symm,Result.andThen_ok,hmain];rw[hsplit];cases hb:eqL ((xs.drop off).take m) ((ys.drop off).take m) with
   |false=>simp
   |true=>simpa using hrest
   cases h;cases h;cases h
section
variable{P:Program}{env:Env}{st:List AO}{dst:Option Tmp}{ty:TypeId}{pos:String}{after:Array Edge}{guard:Option (Nat×Bool)}
theorem eQ{φ w}:∀{vs cs:List Value},RFs φ w (vs.map D.v) cs->cs=vs
 |[],cs,h=>by simpa[RFs] using h
 |v::vs,cs,h=>by
  obtain⟨c,cs',rfl,rfl,h⟩:=h;rw[eQ h]
def ii(P:Program)(T:TypeId):Option (List LK):=bif P.eqGuardType P.depth T then none else match a8 P T with|some true=>iQ P 100 T|_=>none
theorem sy{x y:Operand}{T T':TypeId}{xa ya:AV}{xs ys:List Value}{ks:List LK}{b:Bool}(hT:ii P T=some ks)(hx:opv env x=some xa)(hlx:Le xa (.d (.ag (xs.map D.v))))(hy:opv env y=some ya)(hly:Le ya (.d (.ag (ys.map D.v))))(h1:bZ ks xs=true)(h2:bZ ks ys=true)(hb:eqL xs ys=b):
  Yields P env st ⟨dst, .binOp .eql T x y T',ty,pos,after,guard⟩ (.d (.v (.bool b))):=λm φ a w _ he=>by
 unfold ii at hT;cases hg:P.eqGuardType P.depth T with
 |true=>grind
 |false=>rw[hg] at hT;split at hT;rename_i hag;have ex:=hlx _ _ _ _ (bd he hx);have ey:=hly _ _ _ _ (bd he hy);obtain⟨cs,e1,e2⟩:=ex;obtain⟨ds,e3,e4⟩:=ey;have e5:=eQ e2;rw[e5] at e1;have e6:=eQ e4;rw[e6] at e3;refine⟨_,RAv,λw' _=>?_⟩;have:=((dN (P:=P) w' 100).1 T ks 10000 xs ys hT dC h1 h2).1 hag;simp_all [execOp,run_eqGuard_agg,run_eql_struct];cases hT
theorem xc{x y:Operand}{T T':TypeId}{xa ya:AV}{xs ys:List Value}{ks:List LK}{b:Bool}(hT:ii P T=some ks)(hx:opv env x=some xa)(hlx:Le xa (.d (.ag (xs.map D.v))))(hy:opv env y=some ya)(hly:Le ya (.d (.ag (ys.map D.v))))(h1:bZ ks xs=true)(h2:bZ ks ys=true)(hb:eqL xs ys=b):
  Yields P env st ⟨dst, .binOp .neq T x y T',ty,pos,after,guard⟩ (.d (.v (.bool (!b)))):=λm φ a w _ he=>by
 unfold ii at hT;cases hg:P.eqGuardType P.depth T with
 |true=>grind
 |false=>rw[hg] at hT;split at hT;rename_i hag;have ex:=hlx _ _ _ _ (bd he hx);have ey:=hly _ _ _ _ (bd he hy);obtain⟨cs,e1,e2⟩:=ex;obtain⟨ds,e3,e4⟩:=ey;have e5:=eQ e2;rw[e5] at e1;have e6:=eQ e4;rw[e6] at e3;refine⟨_,RAv,λw' _=>?_⟩;have:=((dN (P:=P) w' 100).1 T ks 10000 xs ys hT dC h1 h2).1 hag;simp_all [execOp,run_eqGuard_agg,run_neq_struct];cases hT
end
end Go.Sk
namespace Go.Sk
open Go.RowKit (Below)
theorem l4(js:List Nat):∀l:List D,AV.rens js (l.map AV.d)=l.map AV.d
 |[]=>rfl
 |x::l=>by rw[List.map_cons,AV.rens,l4 js l];rfl
theorem pu{α:Type}(js:List Nat)(T k v:Nat)(E:α->List D)(L:List α):AO.ren js (.os T k v (L.map (bg E)))= .os T k v (L.map (bg E)):=by grind [AO.ren,List.map_congr_left,l4]
theorem qS{α:Type}{a b:α}{l l':List α}(h:a=b)(k:l=l'):a::l=b::l':=by rw[h,k]
section
variable{P:Program}{e:En}{ops:Array Oper}{l rest:List Oper}{env:Env}{st:List AO}{R:Env->List AO->Prop}{K:Ko}
theorem aO{o:Oper}{d:Nat}{f:FuncId}{c:Call}{x:Operand}{first caps asz as0:List AV}{st0 st0':List AO}{new new':Nat->List AO}{y:D}(js:List Nat)(hop:o.op= .call c)(hx:c.callee= .value x)
  (hf:opv env x=some (.fn (.func f) first caps))(has:cw env c.args.toList=some asz)(hc:Ctr P f as0 st0 (iy st0.length y new))(hl:Les (first++asz++caps) (AV.rens js as0))
  (hla:AV.lts js.length as0=true)(hj:js.Nodup)(hren0:st0.map (AO.ren js)=st0')(hwin:iR js st st0')(hlt:d3 js.length st0=true)(hlive:gM st0=true)(hnew:∀i,d3 js.length (new i)=true)
  (hren:∀i,(new i).map (AO.ren js)=new' i)
  (hw:Wt ops env o true)(ho:o.dst=some d)(hd:Nat.ble (d+1) e.n=true)(h:∀i,WL P e ops rest ((d, .d y)::env) (ct js (new' i) st) R):WL P e ops (o::rest) env st R:=by grind [ws]
end
end Go.Sk
namespace Go.Sk
open Go.RowKit (Below)
section
variable{P:Program}{e:En}{ops:Array Oper}{l rest:List Oper}{env:Env}{st:List AO}{R:Env->List AO->Prop}{K:Ko}
variable{dst:Option Tmp}{ty:TypeId}{pos:String}{after:Array Edge}{guard:Option (Nat×Bool)}
theorem yp{φ w}{ds:List (List D)}{y:Value}(h:RD φ w (.sl ds) y):∃a l c,y= .slice a l c/\(a.isNone=true->ds=[]):=by grind [RD]
theorem WL.cast(t:Nat){x y:AV}(ht:env.get t=some x)(hl:Le x y)(h:WL P e ops rest ((t,y)::env) st R):WL P e ops rest env st R:=
 WL.sub (Sub.cons ht hl (Sub.refl env)) h
theorem sc(b:Bool):b=true\/b=false:=by cases b<;>simp
end
end Go.Sk
namespace Go.Sk
open Go.RowKit (Below)
open Go.ChangeShapes Go.WideShapes Go.ChangeAt Go.RowKit
theorem jR{H:Type}{enc:TypeId×Value->H}{P:Program}{w:World}{base:Nat}{spare:Nat->Bool}{held:Bool}:∀{ts:List TypeId}{vs:List Value}{ds:List (DataW H)}{ps:List MemPlace},DataW.TrodAll enc P w base spare held ts vs ds ps->ds.length=ts.length/\vs.length=ts.length
 |[],[],[],_,_=>⟨rfl,rfl⟩
 |t::ts,v::vs,d::ds,ps,h=>by
  obtain⟨p,q,_,h2,_⟩:=h;have:=jR h2;simp[this.1,this.2]
 |[],[],_::_,_,h=>h.elim
 |[],_::_,_,_,h=>h.elim
 |_::_,[],_,_,h=>h.elim
 |_::_,_::_,[],_,h=>h.elim
theorem gZ{H:Type}{enc:TypeId×Value->H}{P:Program}(hl:laidOutB P=true){W W':World}(hb:Below W.heap.size W W'):∀{ts:List TypeId}{vs:List Value}{ds:List (DataW H)}{ps:List MemPlace},
  (ts.all λt=>P.readableRec t&&decide (t<P.types.size))=true->DataW.TrodAll enc P W 0 (λ_=>true) true ts vs ds ps->(∀x∈ps,x.block<W.heap.size)->DataW.TrodAll enc P W' 0 (λb=>decide (b<W.heap.size)) true ts vs ds ps
 |[],[],[],ps,_,h,_=>h
 |t::ts,v::vs,d::ds,ps,ht,h,hlt=>by
  obtain⟨p,q,h1,h2,rfl⟩:=h;simp only[List.all_cons,Bool.and_eq_true,decide_eq_true_eq] at ht;exact⟨p,q,Below.trod hl ht.1.1 ht.1.2 h1 hb (λx hx=>hlt x (by simp[hx])),gZ hl hb ht.2 h2 (λx hx=>hlt x (by simp[hx])),rfl⟩
 |[],[],_::_,_,_,h,_=>h.elim
 |[],_::_,_,_,_,h,_=>h.elim
 |_::_,[],_,_,_,h,_=>h.elim
 |_::_,_::_,[],_,_,h,_=>h.elim
def bl(W:World)(b:Nat):Nat:=match W.heap[b]? with|some (.cells c _ _)=>c.size|_=>0
theorem nQ(W:World)(hg:Gl (bl W) W):SR [] (bl W) [] W where
 len:=rfl
 obj i o c h:=by simp at h
 lt b hb:=by simp[bl,hb]
 inj i j o o' c c' b h:=by simp at h
 gl:=hg
 nb b h:=by obtain⟨i,c,h,_⟩:=h;simp at h
theorem oO{P:Program}{f:FuncId}{ds:List D}{W:World}{vs:List Value}(hg:Gl (bl W) W)(h:Pu P f ds (.b true))(ha:RAs [] (bl W) W (ds.map .d) vs):Calls P f ⟨vs⟩ W λe W'=>e= .returned (.bool true)/\Below W.heap.size W W':=by refine(h.2 [] (bl W) W vs (nQ W hg) ha).mono ?_;rintro en w' ⟨v,r,st',m',φ',rfl,⟨rfl,rfl⟩,hev,_,hra⟩;simp only[RA,RD] at hra;subst hra;exact⟨rfl,hev.os,hev.tape,hev.output,hev.size,λb hb=>(hev.keep b hb (by rintro⟨i,c,h,_⟩;simp at h)).1⟩
end Go.Sk
namespace Go.Sk
open Go.RowKit (Below)
section
variable{H:Type}{enc:TypeId×Value->H}{P:Program}{W:World}{spare:Nat->Bool}{held:Bool}
theorem wi{W:World}{b off:Nat}{c:Value}(h:W.cell? ⟨b,off,none⟩=some c):off<bl W b:=by unfold World.cell? at h;unfold bl;split at h;rename_i cs t fr hh;simp only at hh;rw[hh];simp only[Option.isSome_none,Bool.false_eq_true,if_false] at h;exact(Array.getElem?_eq_some_iff.1 h).1;cases h
def Tr(enc:TypeId×Value->H)(P:Program)(W:World)(spare:Nat->Bool)(held:Bool)(fuel:Nat)(T:TypeId)(cs:List Value)(y:DataW H×List MemPlace):Prop:=
 DataW.trod enc P W 0 spare held fuel T cs=some y/\W.noneFrozen y.2
theorem kM{W:World}{p q:List MemPlace}(h:W.noneFrozen p)(hs:∀x∈q,x∈p):W.noneFrozen q:=λb off hm=>h b off (hs _ hm)
def Reads(enc:TypeId×Value->H)(P:Program)(W:World)(spare:Nat->Bool)(held:Bool)(fuel:Nat)(T:TypeId){α:Type}(E:α->List D)(G:α->Prop):Prop:=
 ∀cs y,Tr enc P W spare held fuel T cs y->∃x,RFs (bl W) W (E x) cs/\G x
theorem Reads.zero{T:TypeId}{α:Type}{E:α->List D}{G:α->Prop}:Reads enc P W spare held 0 T E G:=λcs y h=>by simp[Tr,DataW.trod] at h
theorem aI{T:TypeId}{k:IntKind}(hT:P.underlying T=some (.int k)):∀fuel,Reads enc P W spare held fuel T (λn:Int=> [.i k n]) (λn=>k.min<=n/\n<=k.max)
 |0=>Reads.zero
 |fuel+1=>λcs y h=>by
  replace h:=h.1;rcases cs with _|⟨v,_|⟨v2,r⟩⟩
  simp[DataW.trod,hT] at h;cases v<;>simp only[DataW.trod,hT,reduceCtorEq] at h;rename_i k' n;split at h;rename_i hc;obtain⟨rfl,hw⟩:=hc;refine⟨n,by simp[RFs,RD],?_⟩;simpa[Lit.wf,IntKind.has] using hw;cases h;simp[DataW.trod,hT] at h
theorem kF{T:TypeId}(hT:P.underlying T=some .bool):∀fuel,Reads enc P W spare held fuel T (λb:Bool=> [.b b]) (λ_=>True)
 |0=>Reads.zero
 |fuel+1=>λcs y h=>by
  replace h:=h.1;rcases cs with _|⟨v,_|⟨v2,r⟩⟩
  simp[DataW.trod,hT] at h;cases v<;>simp only[DataW.trod,hT,reduceCtorEq] at h;rename_i b;exact⟨b,by simp[RFs,RD],trivial⟩;simp[DataW.trod,hT] at h
theorem ft{α β:Type}{f:α->Option β}:∀{l:List α}{r:List β},l.mapM f=some r->∀(i:Nat)(a:α),l[i]? =some a->∃b,f a=some b/\r[i]? =some b
 |[],r,h,i,a,ha=>by simp at ha
 |x::l,r,h,i,a,ha=>by
  rw[List.mapM_cons] at h;cases hx:f x with
  |none=>simp[hx] at h
  |some b=>
   cases hl:l.mapM f with
   |none=>simp[hx,hl] at h
   |some bs=>
    simp only[hx,hl,Option.bind_eq_bind,bnS,Option.pure_def,ay] at h;subst h;cases i with
    |zero=>simp only[List.getElem?_cons_zero,ay] at ha;subst ha;exact⟨b,hx,rfl⟩
    |succ i=>obtain⟨c,h1,h2⟩:=ft hl i a (by simpa using ha);exact⟨c,h1,by simpa using h2⟩
theorem oe{α β:Type}{f:α->Option β}:∀{l:List α}{r:List β},l.mapM f=some r->r.length=l.length
 |[],r,h=>by simp at h;simp[h]
 |x::l,r,h=>by
  rw[List.mapM_cons] at h;cases hx:f x with
  |none=>simp[hx] at h
  |some b=>
   cases hl:l.mapM f with
   |none=>simp[hx,hl] at h
   |some bs=>simp only[hx,hl,Option.bind_eq_bind,bnS,Option.pure_def,ay] at h;subst h;simp[oe hl]
theorem ql{φ w}:∀{xs:List D}{vs:List Value}{ys:List D}{us:List Value},RFs φ w xs vs->RFs φ w ys us->RFs φ w (xs++ys) (vs++us)
 |[],vs,ys,us,h,k=>by simp only[RFs] at h;subst h;exact k
 |x::xs,vs,ys,us,h,k=>by
  simp only[RFs] at h;obtain⟨c,cs,rfl,h1,h2⟩:=h;simp only[List.cons_append,RFs];exact⟨c,cs++us,rfl,h1,ql h2 k⟩
theorem nZ{e:TypeId}{α:Type}{E:α->List D}{G:α->Prop}{fuel k:Nat}{b off:Nat}(hk:P.cellsOf e=k)(hE:∀x,(E x).length=k)(he:Reads enc P W spare held fuel e E G):
  ∀n:Nat,(∀i,i<n->∃y,(W.cells? 0 (Addr.add ⟨b,off,none⟩ (i*P.cellsOf e)) (P.cellsOf e)).bind (DataW.trod enc P W 0 spare held fuel e)=some y/\W.noneFrozen y.2)->(∀j,j<n*k->W.frozen? ⟨b,off+j,none⟩=false)->∃L:List α,L.length=n/\REs (bl W) W (L.map E) k b off/\∀x∈L,G x:=by
 intro n;induction n generalizing off with
 |zero=>intro _ _;exact⟨[],rfl,by simp[REs],sM⟩
 |succ n ih=>
  intro h hz;rw[Nat.succ_mul] at hz;obtain⟨y,hy,hn⟩:=h 0 (Nat.succ_pos n);obtain⟨cs,h1,h2⟩:=Option.bind_eq_some_iff.1 hy;obtain⟨x,hx,gx⟩:=he cs y ⟨h2,hn⟩;obtain⟨L,l1,l2,l3⟩:=ih (off:=off+k) (λi hi=>by
   obtain⟨y,hy,hn⟩:=h (i+1) oM;refine⟨y,?_,hn⟩;rw[<-hy,hk];rw[cM,cM,Nat.succ_mul,show off+(i*k+k)=off+k+i*k from by omega]) (λj hj=>by rw[Nat.add_assoc];exact hz (k+j) oM)
  refine⟨x::L,by simp[l1],?_,λz hz=>by rcases List.mem_cons.1 hz with rfl|hz<;>first|exact gx|exact l3 z hz⟩;simp only[List.map_cons,REs];refine⟨?_,l2⟩;have hcs:∀j,j<k->W.cell? ⟨b,off+j,none⟩=cs[j]? :=by unfold World.cells? at h1;simp only[Nat.zero_le,if_true,Nat.zero_mul] at h1;intro j hj;obtain⟨c,c1,c2⟩:=ft h1 j j (by rw[hk];exact List.getElem?_range hj);rw[c2,<-c1,cM,cM];simp
  have hlen:(E x).length=k:=hE x;have hz':∀j,j<k->W.frozen? ⟨b,off+j,none⟩=false:=λj hj=>hz j oM;clear ih h l1 l2 l3 h1 h2 hy hz;generalize E x=ps at hx hlen;have key:∀(ps:List D)(cs:List Value)(o:Nat),RFs (bl W) W ps cs->(∀j,j<ps.length->W.cell? ⟨b,o+j,none⟩=cs[j]?/\W.frozen? ⟨b,o+j,none⟩=false)->RPs (bl W) W ps b o:=by
   intro ps;induction ps with
   |nil=>intro cs o _ _;simp[RPs]
   |cons p ps ih=>intro cs o h1 h2;simp only[RFs] at h1;obtain⟨c,cs',rfl,h3,h4⟩:=h1;have h0:=h2 0 sM;simp only[Nat.add_zero,List.getElem?_cons_zero] at h0;simp only[RPs];exact⟨⟨wi h0.1,c,n4 h0.1 h0.2,h3⟩,ih cs' (o+1) h4 (λj hj=>by have:=h2 (j+1) (by simpa using hj);rw[show o+1+j=o+(j+1) from by omega,this.1];simpa using this.2)⟩
  exact key ps cs off hx (λj hj=>⟨hcs j oM,hz' j oM⟩)
theorem nY{T e:TypeId}{α:Type}{E:α->List D}{G:α->Prop}{k:Nat}(hT:P.underlying T=some (.slice e))(hk:P.cellsOf e=k)(hk0:0<k)(hE:∀x,(E x).length=k){fuel:Nat}(he:Reads enc P W spare held fuel e E G):
  Reads enc P W spare held (fuel+1) T (λL:List α=> [.sl (L.map E)]) (λL=>(∀x∈L,G x)/\L.length<=maxLen):=λcs y h=>by
 obtain⟨h,hN⟩:=h;rcases cs with _|⟨v,_|⟨v2,r⟩⟩
 simp[DataW.trod,hT] at h;cases v<;>simp only[DataW.trod,hT,reduceCtorEq] at h;rename_i a len cap;cases a with
 |none=>
  rcases len with _|len<;>rcases cap with _|cap<;>simp only[reduceCtorEq] at h
  exact⟨[],by simp only[RFs,RD];exact⟨_,[],rfl, .inl ⟨rfl,none,0,rfl,λ_=>rfl⟩,rfl⟩,sM⟩
 |some a=>
  have h':(if 0<=a.block/\len<=cap/\cap<=maxLen then
   ((List.range len).mapM λi=>(W.cells? 0 (a.add (i*P.cellsOf e)) (P.cellsOf e)).bind (DataW.trod enc P W 0 spare held fuel e)).bind λelems=>
    (if spare a.block then(List.range (cap - len)).mapM λj=>(W.cells? 0 (a.add ((len+j)*P.cellsOf e)) (P.cellsOf e)).bind (DataW.trod enc P W 0 spare held fuel e) else some []).map λrest=>
     (DataW.slice (elems.map (·.1)) (rest.map (·.1)),MemPlace.row a ((elems.length+rest.length)*P.cellsOf e)++(elems++rest).flatMap (·.2)) else none)=some y:=by simpa[DataW.trod,hT] using h
  clear h;split at h';rename_i hc;obtain⟨elems,h1,h2⟩:=Option.bind_eq_some_iff.1 h';have hm:=λi hi=>ft h1 i i (List.getElem?_range (n:=len) hi);have hel:elems.length=len:=by have:=oe h1;simpa using this
  by_cases hl:len=0;subst hl;exact⟨[],by simp only[RFs,RD];exact⟨_,[],rfl, .inl ⟨rfl,some a,cap,rfl,λh=>by cases h⟩,rfl⟩,sM,sM⟩;have hs:a.spot=none:=by obtain⟨b,h3,_⟩:=hm 0 oM;obtain⟨cs,h4,_⟩:=Option.bind_eq_some_iff.1 h3;unfold World.cells? at h4;simp only[Nat.zero_le,if_true] at h4;obtain⟨c,c1,_⟩:=ft h4 0 0 (by rw[hk];exact List.getElem?_range hk0);have:=World.cell?_spot c1;simpa[Addr.add] using this
  obtain⟨b,off,sp⟩:=a;simp only at hs;subst hs;obtain⟨rest,h5,rfl⟩:=Option.map_eq_some_iff.1 h2;obtain⟨L,l1,l2,l3⟩:=nZ hk hE he len (λi hi=>by
   obtain⟨z,h3,h6⟩:=hm i hi;refine⟨z,h3,kM hN λx hx=>List.mem_append_right _ ?_⟩;exact List.mem_flatMap.2 ⟨z,List.mem_append_left _ (List.mem_iff_getElem?.2 ⟨i,h6⟩),hx⟩) (λj hj=>by
   refine hN b (off+j) (List.mem_append_left _ ?_);rw[hk,hel];refine List.mem_map.2 ⟨j,List.mem_range.2 ?_,by simp[Addr.add]⟩;rw[Nat.add_mul];omega)
  refine⟨L,?_,l3,oM⟩;simp only[RFs,RD];refine⟨_,[],rfl, .inr ⟨b,off,k,cap,by rw[List.length_map,l1],by rw[List.length_map,l1];exact hc.2.1,λx hx=>?_,l2⟩,rfl⟩;obtain⟨z,_,rfl⟩:=List.mem_map.1 hx;exact hE z;cases h'
 simp[DataW.trod,hT] at h
theorem ar{φ w}{cs:List Value}{off n m:Nat}{E F:List D}(h:RFs φ w E ((cs.drop off).take n))(hm:m=off+n)(k:RFs φ w F (cs.drop m)):RFs φ w (E++F) (cs.drop off):=by subst hm;have:=ql h k;rwa [<-List.drop_drop,List.take_append_drop] at this
theorem cH{φ w}{cs:List Value}{off:Nat}(h:cs.length=off):RFs φ w [] (cs.drop off):=by rw[List.drop_of_length_le oM];rfl
theorem bF{T:TypeId}{fs:Array Field}{α:Type}{E:α->List D}{G:α->Prop}{fuel:Nat}{n:Nat}(hT:P.underlying T=some (.struct fs))(hn:P.cellsOf T=n)
  (h:∀cs:List Value,cs.length=n->(∀(i:Nat) f,fs[i]? =some f->∃y,Tr enc P W spare held fuel f.type ((cs.drop f.offset).take (P.cellsOf f.type)) y)->∃x,RFs (bl W) W (E x) cs/\G x):
  Reads enc P W spare held (fuel+1) T E G:=λcs y hy=>by
 obtain⟨hy,hN⟩:=hy;simp only[DataW.trod,hT] at hy;split at hy;rename_i hl;obtain⟨xs,h1,rfl⟩:=Option.map_eq_some_iff.1 hy;refine h cs oM (λi f hf=>?_);obtain⟨b,h2,h3⟩:=ft h1 i f (by simpa using hf);exact⟨b,h2,kM hN λx hx=>List.mem_flatMap.2 ⟨b,List.mem_iff_getElem?.2 ⟨i,h3⟩,hx⟩⟩;cases hy
theorem l5{T:TypeId}{v:Value}{d:DataW H}{ps:List MemPlace}{α:Type}{E:α->List D}{G:α->Prop}(hr:∀fuel,Reads enc P W spare held fuel T E G)(h:DataW.Trod enc P W 0 spare held T v d ps/\W.noneFrozen ps):∃x,RFs (bl W) W (E x) v.cells.toList/\G x:=by obtain⟨⟨fuel,h⟩,hn⟩:=h;exact hr fuel _ _ ⟨h,hn⟩
theorem xp{φ w}{x:D}{v:Value}(h:RFs φ w [x] v.cells.toList)(hv:v.oneCell'=true):RD φ w x v:=by rw[mq hv] at h;simp only[RFs] at h;obtain⟨c,cs,e,h1,rfl⟩:=h;simp only[List.cons.injEq,and_true] at e;subst e;exact h1
theorem xq{φ w}{xs:List D}{cs:Array Value}(h:RFs φ w xs (Value.agg cs).cells.toList):RD φ w (.ag xs) (.agg cs):=by simp only[RD];exact⟨cs.toList,rfl,h⟩
theorem bh{T e:TypeId}{α:Type}{E:α->List D}{G:α->Prop}{k:Nat}(hT:P.underlying T=some (.slice e))(hk:P.cellsOf e=k)(hk0:0<k)(hE:∀x,(E x).length=k):∀{fuel:Nat},(∀f,f<fuel->Reads enc P W spare held f e E G)->
  Reads enc P W spare held fuel T (λL:List α=> [.sl (L.map E)]) (λL=>(∀x∈L,G x)/\L.length<=maxLen)
 |0,_=>Reads.zero
 |f+1,he=>nY hT hk hk0 hE (he f (Nat.lt_succ_self f))
theorem rI{T e:TypeId}{base:Nat}{v:Value}(hT:P.underlying T=some (.slice e))(h:Value.okWide P W .any base T v):v.oneCell'=true:=by cases v<;>simp_all [Value.okWide,Cell.okWide,Cell.ok,Value.oneCell']
theorem pJ{T:TypeId}{fs:Array Field}{base:Nat}{v:Value}(hT:P.underlying T=some (.struct fs))(h:Value.okWide P W .any base T v):∃cs,v= .agg cs:=by simp only[Value.okWide,hT] at h;obtain⟨cs,h,_⟩:=h;exact⟨cs,h⟩
def oU(enc:TypeId×Value->H)(P:Program)(W:World)(spare:Nat->Bool)(held:Bool)(ts:List TypeId)(vs:List Value)(ds:List (DataW H))(ps:List MemPlace):Prop:=DataW.TrodAll enc P W 0 spare held ts vs ds ps/\W.noneFrozen ps
theorem gS{t:TypeId}{ts:List TypeId}{vs:List Value}{ds:List (DataW H)}{ps:List MemPlace}(h:oU enc P W spare held (t::ts) vs ds ps):∃v vs' d ds' p q,vs=v::vs'/\ds=d::ds'/\(DataW.Trod enc P W 0 spare held t v d p/\W.noneFrozen p)/\oU enc P W spare held ts vs' ds' q:=by
 obtain⟨h,hN⟩:=h;cases vs with
 |nil=>cases ds<;>exact h.elim
 |cons v vs=>
  cases ds with
  |nil=>exact h.elim
  |cons d ds=>obtain⟨p,q,h1,h2,rfl⟩:=h;exact⟨v,vs,d,ds,p,q,rfl,rfl,⟨h1,kM hN λx hx=>List.mem_append_left _ hx⟩,h2,kM hN λx hx=>List.mem_append_right _ hx⟩
theorem mG{vs:List Value}{ds:List (DataW H)}{ps:List MemPlace}(h:oU enc P W spare held [] vs ds ps):vs=[]:=by
 replace h:=h.1;cases vs with
 |nil=>rfl
 |cons v vs=>cases ds<;>exact h.elim
end
end Go.Sk
namespace Go.Sk
open Go.RowKit (Below)
end Go.Sk
namespace Go.Sk
open Go.RowKit (Below)
def famE(fid ver n:Nat):List (List AV):=(List.range n).map λi=> [AV.osf fid i ver]
abbrev famM{α:Type}(R:α->List D)(L:List (List α)):List (List (List AV)):=L.map λl=>l.map (bg R)
section
variable{P:Program}{e:En}{ops:Array Oper}{l rest:List Oper}{env:Env}{st:List AO}{R:Env->List AO->Prop}{K:Ko}
def Gh(e:En)(env:Env)(st:List AO)(env':Env)(st':List AO):Prop:=∀m φ a w,Inv e m φ env st a w->∃m' φ',Inv e m' φ' env' st' a w
theorem Gh.wl{env':Env}{st':List AO}(h:Gh e env st env' st')(k:WL P e ops l env' st' R):WL P e ops l env st R:=λm φ a w hi=>
 let ⟨m',φ',hi'⟩:=h m φ a w hi
 k m' φ' a w hi'
theorem eA{x:Exit}{env':Env}{st':List AO}(h:Gh e env st env' st')(k:WE P e x K env' st'):WE P e x K env st:=λm φ a w hi=>
 let ⟨m',φ',hi'⟩:=h m φ a w hi
 k m' φ' a w hi'
end
end Go.Sk
namespace Go.Sk
open Go.RowKit (Below)
section
variable{P:Program}{env:Env}{st:List AO}{dst:Option Tmp}{ty:TypeId}{pos:String}{after:Array Edge}{guard:Option (Nat×Bool)}
theorem oI{T:TypeId}{x y:Operand}{id ver off T' k:Nat}{es es':List (List AV)}{r:AV}(hx:opv env x=some (.pe id ver off))(hs:st[id]? =some (.os T' k ver es))(hy:opv env y=some r)
  (hone:∀m φ w v,SR m φ st w->RA m φ w r v->v.oneCell'=true/\v.cells= #[v])
  (hn:bt P T=some 1)(hlen:off+1<=es.flatten.length)(hes:es'.flatten=es.flatten.take off++ [r]++es.flatten.drop (off+1))(hel:es'.length=es.length)(hek:∀e∈es',e.length=k):
  Does P env st ⟨dst, .store T x y,ty,pos,after,guard⟩ (.d (.v undef)) (st.set id (.os T' k ver es')):=λm φ a w hsr he=>by
 obtain⟨b,len,cap,xs,g1,g2,g3,g4,g5,g6⟩:=jq hsr he hx hs;have q0:=bd he hy;obtain⟨o1,o2⟩:=hone m φ w _ hsr q0;have q2:RAs m φ w [r] [a.eval y]:=bp q0 cf;have hxl:=a9 g4;obtain⟨r1,r2⟩:=g3;rcases r2 with⟨hv,_⟩|⟨g,cap',cur,hv,p1,p2,p3,p4,p5,p6⟩
 cases hv;obtain⟨rfl,rfl,rfl⟩:=hv;have hcl:es.length*k<=cur.size:=by grind
 have hst:=run_storeCells_at P b off T' [a.eval y] 0 cur w p2 (by simp;omega) (by simpa using o1);have hnew:RAs m φ w es'.flatten (xs.take off++ [a.eval y]++xs.drop (off+1)):=by grind [ba,cq,cx]
 have htk:((cur.toList.take off++ [a.eval y]++cur.toList.drop (off+1)).toArray.toList).take (es.length*k)=xs.take off++ [a.eval y]++xs.drop (off+1):=by rw[<-p6];apply List.ext_getElem?;intro j;have hcz:cur.toList.length=cur.size:=sM;have hsize:[a.eval y].length=1:=rfl;simp only[List.getElem?_take,List.getElem?_append,List.length_append,List.length_take,List.getElem?_drop,hsize,hcz];rw[Nat.min_eq_left (show off<=cur.size by omega),Nat.min_eq_left (show es.length*k<=cur.size by omega),Nat.min_eq_left (show off<=es.length*k by omega)];by_cases h1:j<es.length*k;grind;grind
 obtain⟨k1,k2⟩:=pn hsr hs g1 hnew hel hek cur p2 (cur.toList.take off++ [a.eval y]++cur.toList.drop (off+1)).toArray (by simp;omega) htk;refine⟨undef,_,m,φ, .inr ⟨?_,rfl⟩,k1,k2,RAv⟩;simp_all [execOp,Instr.storeAt,Instr.sureAddr,storeVar,aP]
end
section
variable{P:Program}{e:En}{ops:Array Oper}{l rest:List Oper}{env:Env}{st:List AO}{R:Env->List AO->Prop}{K:Ko}
end
end Go.Sk
namespace Go.Sk
open Go.RowKit (Below)
section
variable{P:Program}{env:Env}{st:List AO}{dst:Option Tmp}{ty:TypeId}{pos:String}{after:Array Edge}{guard:Option (Nat×Bool)}
theorem nm{T:TypeId}{x:Operand}{r:AV}{ds:List D}(hx:opv env x=some r)(hk:r.okc=true)(hc:Les r.cells (ds.map .d)):DoesB P env st ⟨dst, .box T x,ty,pos,after,guard⟩ (.d (.pc ds)) st:=λm φ a w hs he=>by
 obtain⟨vs,h1,h2⟩:=bK (bd he hx) hk;have h2':=cT (hc.ras h2);let w':=w.alloc (.cells ⟨vs⟩ T);let φ':Nat->Nat:=λb=>if b=w.heap.size then ds.length else φ b
 have hb:Below w.heap.size w w':=(Below.refl _ _).alloc (Nat.le_refl _) _;have hF:Fz φ w φ' w':=λb off c g1 g2=>by
  have hlt:=cR hs g1;refine⟨?_,by rw[cZ (hb.block b hlt)];exact g2⟩;show off<if b=w.heap.size then ds.length else φ b
  rw[if_neg oM];exact g1
 have hk':∀b,b<w.heap.size->w'.heap[b]? =w.heap[b]?/\φ' b=φ b:=λb hlt=>⟨hb.block b hlt,if_neg oM⟩;have hlt:∀b,w'.heap.size<=b->φ' b=0:=λb h=>by
  have h3:w'.heap.size=w.heap.size+1:=by simp[w']
  show(if b=w.heap.size then ds.length else φ b)=0;rw[if_neg oM];exact hs.lt b oM
 refine⟨.pointer (some ⟨w.heap.size,0,none⟩),w',m,φ',by simp[execOp,Instr.box,newVar,newRow,h1,w'],⟨Pre.refl m,λ_ h=> .inl h,hb.os,hb.tape,hb.output,hb.size,λb h _=>hk' b h,hF⟩,hs.of_keep hk' hF hlt,?_,hb⟩;simp only[RA,RD];refine⟨_,0,rfl,dV (RFs.mono hF _ _ h2') λj v hj=>?_⟩;have hjl:j<vs.length:=dD hj;have hvl:=fV h2';refine⟨?_,?_⟩;show 0+j<if w.heap.size=w.heap.size then ds.length else φ w.heap.size
 rw[if_pos rfl];omega;have:w'.heap[w.heap.size]? =some (.cells ⟨vs⟩ T (0,0)):=heap_alloc_new w _;refine n4 ?_ (by simp[World.frozen?,this]);unfold World.cell?;simp only[this];simpa using hj
end
theorem Le.fnc{f:Fn}{a b:List AV}{a' b':List D}(h:Les a (a'.map .d))(k:Les b (b'.map .d)):Le (.fn f a b) (.d (.fnc f a' b')):=λ_ _ _ _ hh=>by
 simp only[RA,RD] at hh⊢;obtain⟨fs,cs,h1,h2,h3⟩:=hh;exact⟨fs,cs,h1,cT (h.ras h2),cT (k.ras h3)⟩
theorem gN(f:Fn)(a b:List D):Le (.d (.fnc f a b)) (.fn f (a.map .d) (b.map .d)):=λ_ _ _ _ hh=>by
 simp only[RA,RD] at hh⊢;obtain⟨fs,cs,h1,h2,h3⟩:=hh;exact⟨fs,cs,h1,cU h2,cU h3⟩
theorem Les.app:∀{xs ys us vs:List AV},Les xs ys->Les us vs->Les (xs++us) (ys++vs)
 |[],[],_,_,_,k=>k
 |_x::_xs,_y::_ys,_,_,h,k=>⟨h.1,Les.app h.2 k⟩
 |[],_::_,_,_,h,_=>h.elim
 |_::_,[],_,_,h,_=>h.elim
theorem nw{fi ca:List D}{asz:List AV}{ds:List D}(h:Les asz (ds.map .d)):Les (fi.map .d++asz++ca.map .d) ((fi++ds++ca).map .d):=by rw[List.map_append,List.map_append];exact Les.app (Les.app (Les.refl _) h) (Les.refl _)
def ke{α:Type}(R:α->List D):Option α->D
 |none=> .v (.pointer none)
 |some c=> .pc (R c)
section
variable{P:Program}{env:Env}{st:List AO}{dst:Option Tmp}{ty:TypeId}{pos:String}{after:Array Edge}{guard:Option (Nat×Bool)}
end
end Go.Sk
namespace Go.Sk
open Go.RowKit (Below)
def eU(s:ByteArray)(i:Int):Option Int:=if h:0<=i/\i<s.size then some ((s[i.toNat]'oM).toNat:Int) else none
def rB(s:ByteArray)(l h:Int):Option ByteArray:=bif decide (0<=h)&&decide (h<=(s.size:Int))&&decide (0<=l)&&decide (l<=h) then some (s.extract l.toNat h.toNat) else none
section
variable{P:Program}{env:Env}{st:List AO}{dst:Option Tmp}{ty:TypeId}{pos:String}{after:Array Edge}{guard:Option (Nat×Bool)}
theorem cX{T:TypeId}{x ix:Operand}{k:IntKind}{s:ByteArray}{i r:Int}(hT:P.underlying T=some .string)(hx:opv env x=some (.d (.v (.string s))))(hi:opv env ix=some (.d (.v (.int k i))))(h:eU s i=some r):
  Yields P env st ⟨dst, .index T x ix,ty,pos,after,guard⟩ (.d (.v (.int .u8 r))):=λm φ a w _ he=>by
 refine⟨_,RAv,λw' _=>?_⟩;unfold eU at h;split at h;rename_i hc;simp only[ay] at h;subst h;simp only[execOp,aV he hx,aV he hi,Sem.run_bind,run_index_string w' T s k i hT,dif_pos hc];simp;cases h
theorem xb{T:TypeId}{x l h:Operand}{k k':IntKind}{s r:ByteArray}{i j:Int}(hT:P.underlying T=some .string)(hx:opv env x=some (.d (.v (.string s))))(hl:opv env l=some (.d (.v (.int k i))))(hh:opv env h=some (.d (.v (.int k' j))))(hr:rB s i j=some r):
  Yields P env st ⟨dst, .slice T x (some l) (some h) none,ty,pos,after,guard⟩ (.d (.v (.string r))):=λm φ a w _ he=>by
 refine⟨_,RAv,λw' _=>?_⟩;unfold rB at hr;cases hc:(decide (0<=j)&&decide (j<=(s.size:Int))&&decide (0<=i)&&decide (i<=j)) with
 |false=>rw[hc] at hr;cases hr
 |true=>rw[hc] at hr;obtain rfl:=inS hr;simp only[Bool.and_eq_true,decide_eq_true_eq] at hc;simp[execOp,aV he hx,aV he hl,aV he hh,Instr.sliceAt,run_underlying hT,run_slice_string_if w' T s k k' i j hT,hc]
theorem uD{T:TypeId}{x l:Operand}{k:IntKind}{s r:ByteArray}{i:Int}(hT:P.underlying T=some .string)(hx:opv env x=some (.d (.v (.string s))))(hl:opv env l=some (.d (.v (.int k i))))(hr:rB s i s.size=some r):
  Yields P env st ⟨dst, .slice T x (some l) none none,ty,pos,after,guard⟩ (.d (.v (.string r))):=λm φ a w _ he=>by
 refine⟨_,RAv,λw' _=>?_⟩;unfold rB at hr;cases hc:(decide (0<=(s.size:Int))&&decide ((s.size:Int)<=(s.size:Int))&&decide (0<=i)&&decide (i<=(s.size:Int))) with
 |false=>rw[hc] at hr;cases hr
 |true=>rw[hc] at hr;obtain rfl:=inS hr;simp only[Bool.and_eq_true,decide_eq_true_eq] at hc;simp[execOp,aV he hx,aV he hl,Instr.sliceAt,run_underlying hT,run_slice_string_from_if w' T s k i hT,hc]
end
end Go.Sk
namespace Go.Sk
open Go.RowKit (Below)
open Go.MapKept (IsKey sameNow_of_keys run_getObj_map run_setObj_map run_checkKey run_findKey run_keyThatStays)
section
variable{P:Program}{env:Env}{st:List AO}{dst:Option Tmp}{ty:TypeId}{pos:String}{after:Array Edge}{guard:Option (Nat×Bool)}
variable{κ α:Type}[DecidableEq κ]
end
end Go.Sk
namespace Go.Sk
open Go.RowKit (Below)
def AV.okS(st:List AO):AV->Bool
 | .os id ver=>match st[id]? with|some (.os _ _ v _)=>Nat.beq v ver|_=>false
 | .pe id ver _=>match st[id]? with|some (.os _ _ v _)=>Nat.beq v ver|_=>false
 |x=>x.okc
theorem sZ{st:List AO}{id ver off T k:Nat}{es:List (List AV)}(hs:st[id]? =some (.os T k ver es)):∀m φ w v,SR m φ st w->RA m φ w (.pe id ver off) v->v.oneCell'=true/\v.cells= #[v]:=λm φ w v hsr h=>by
 obtain⟨v0,y0,h1,_,h3⟩:=h;obtain⟨y,xs,h4,_⟩:=hsr.obj _ _ _ hs h1;simp only[Cz.tok.injEq] at h4;obtain⟨b,_,_,_,h5⟩:=h3 h4.1.symm;subst h5;exact⟨rfl,rfl⟩
theorem fx{m φ w st}{x:AV}{y:Value}(hs:SR m φ st w)(h:RA m φ w x y)(hk:x.okS st=true):∃vs,y.cells=⟨vs⟩/\RAs m φ w x.cells vs:=by
 cases x with
 |os id ver=>simp only[AV.okS] at hk;split at hk;rename_i T k v es hi;obtain rfl:=nbE hk;exact⟨[y],(dp hi m φ w y hs h).2,bp h cf⟩;cases hk
 |u=>exact bK h hk
 |d z=>exact bK h hk
 |ag ps=>exact bK h hk
 |pt id off=>exact bK h hk
 |sr id off len cap=>exact bK h hk
 |fn f a b=>exact bK h hk
 |mp id=>exact bK h hk
 |tu l=>exact bK h hk
 |pe id ver off=>simp only[AV.okS] at hk;split at hk;rename_i T k v es hi;obtain rfl:=nbE hk;exact⟨[y],(sZ hi m φ w y hs h).2,bp h cf⟩;cases hk
 |ow id v off len lo=>exact bK h hk
 |fs es=>exact bK h hk
 |ifc t x=>exact bK h hk
 |osf id j v=>exact bK h hk
 |pem id j v off=>exact bK h hk
 |yl id=>exact bK h hk
 |kv v z=>exact bK h hk
def gK(st:List AO)(place:Nat->Option (Nat×Nat))(cells:List AV):List (Nat×AV)->Option (List AV)
 |[]=>some cells
 |(i,v)::rest=>
  match place i with
  |none=>none
  |some (off,size)=>
   bif Nat.beq v.cells.length size&&Nat.ble (off+v.cells.length) cells.length&&v.okS st then gK st place (cells.take off++(v.cells++cells.drop (off+size))) rest
   else none
theorem kY{m φ w st}(hsr:SR m φ st w){place:Nat->Option (Nat×Nat)}:∀{parts:List (Nat×AV)}{pv:List (Nat×Value)}{cells cs:List AV}{vs:List Value},parts.map (·.1)=pv.map (·.1)->RAs m φ w (parts.map (·.2)) (pv.map (·.2))->
  RAs m φ w cells vs->gK st place cells parts=some cs->∃us,Instr.fill place ⟨vs⟩ pv=some ⟨us⟩/\RAs m φ w cs us
 |[],pv,cells,cs,vs,hi,hv,hc,hf=>by
  simp only[gK,ay] at hf;subst hf;cases pv with
  |nil=>exact⟨vs,rfl,hc⟩
  |cons p pv=>simp at hi
 |(i,x)::parts,[],cells,cs,vs,hi,hv,hc,hf=>by simp at hi
 |(i,x)::parts,(i',v)::pv,cells,cs,vs,hi,hv,hc,hf=>by
  simp only[List.map_cons,List.cons.injEq] at hi;obtain⟨rfl,hi⟩:=hi;simp only[List.map_cons,RAs] at hv;obtain⟨c,cs',he,hx,hv⟩:=hv;obtain⟨rfl,rfl⟩:=he;unfold gK at hf;split at hf;cases hf;rename_i off size hp;cases hb:(Nat.beq x.cells.length size&&Nat.ble (off+x.cells.length) cells.length&&x.okS st) with
  |false=>grind
  |true=>rw[hb] at hf;simp only[Bool.and_eq_true] at hb;obtain⟨⟨b1,b2⟩,b3⟩:=hb;have b1:=nbE b1;have b2:=nbT b2;obtain⟨us,g1,g2⟩:=fx hsr hx b3;have l1:=a9 g2;have l2:=a9 hc;obtain⟨us',k1,k2⟩:=kY hsr hi hv (ba (cq off hc) (ba g2 (cx (off+size) hc))) hf;refine⟨us',?_,k2⟩;rw[jz hp (by rw[g1];simp;omega) (by rw[g1];simp;omega)];simp_all
section
variable{P:Program}{env:Env}{st:List AO}{dst:Option Tmp}{ty:TypeId}{pos:String}{after:Array Edge}{guard:Option (Nat×Bool)}
theorem sA{T:TypeId}{parts:Array (Nat×Operand)}{pl:List (Nat×Nat)}{zs:List Value}{xs cs:List AV}(hp:cB P T=some pl)(hz:aW P T=some zs)(hx:cw env (parts.toList.map (·.2))=some xs)
  (hf:gK st (λi=>pl[i]?) (zs.map λv=> .d (.v v)) (jk parts.toList xs)=some cs):Yields P env st ⟨dst, .build T parts,ty,pos,after,guard⟩ (.ag cs):=λm φ a w hs he=>by
 have h1:=gn he hx;have hl:parts.toList.length=xs.length:=by have:=dJ hx;simpa using this.symm
 obtain⟨e1,e2⟩:=iC (l:=parts.toList) (xs:=xs) hl rfl;obtain⟨us,g1,g2⟩:=kY hs (m:=m) (φ:=φ) (w:=w) (parts:=jk parts.toList xs) (pv:=parts.toList.map λ(i,x)=>(i,a.eval x)) (by rw[e1];simp[Function.comp_def]) (by rw[e2];exact h1) (d7 zs) hf;refine⟨.agg ⟨us⟩,by simp only[RA];exact⟨us,rfl,g2⟩,λw' hb=>?_⟩;obtain⟨z,z1,z2⟩:=eg hz w';unfold cB at hp;split at hp;rename_i fs hu;have hm:=ff (P:=P) (λf:Field=>(Prod.mk f.offset<$>sizeOf f.type:Sem (Nat×Nat))) (λf=>(bt P f.type).map λn=>(f.offset,n)) w' fs.toList pl (λf b _ hb=>by
  cases hsz:bt P f.type with
  |none=>simp[hsz] at hb
  |some n=>simp only[hsz,Option.map_some,ay] at hb;subst hb;simp[aP hsz]) hp
 have hm':(fs.mapM (λf:Field=>(Prod.mk f.offset<$>sizeOf f.type:Sem (Nat×Nat)))).run P w'= .ok pl.toArray w':=by rw[<-Array.toArray_toList (xs:=fs),List.mapM_toArray];simp[hm]
 simp[execOp,Instr.build,z1,run_underlying hu,hm',z2,g1];cases hp
theorem yk{T:TypeId}{x:Operand}{r:AV}(hx:opv env x=some r)(hk:r.okS st=true):DoesB P env st ⟨dst, .box T x,ty,pos,after,guard⟩ (.pt st.length 0) (st++ [.row T r.cells]):=λm φ a w hs he=>by
 obtain⟨vs,h1,h2⟩:=fx hs (bd he hx) hk;obtain⟨h3,h4,h5⟩:=jG (T:=T) hs h2;exact⟨.pointer (some ⟨w.heap.size,0,none⟩),_,_,φ,by simp[execOp,Instr.box,newVar,newRow,h1],h3,h4,by simp only[RA];exact⟨_,h5,rfl⟩,(Below.refl _ _).alloc (Nat.le_refl _) _⟩
end
end Go.Sk
namespace Go.Sk
open Go.RowKit (Below)
section
variable{P:Program}{env:Env}{st:List AO}{o:Oper}
end
theorem oa{P:Program}{env:Env}{st:List AO}{dst:Option Tmp}{ty:TypeId}{pos:String}{after:Array Edge}{guard:Option (Nat×Bool)}{T el k by_:Nat}(hT:bR P T=some (el,k,by_)):NewOs P env st ⟨dst, .buildSlice T 0 #[],ty,pos,after,guard⟩ el k []:=λm φ a w hs he=>by
 obtain⟨i,ht,hi,rfl,rfl⟩:=eP hT;have hso:(sizeOf el).run P w= .ok i.size w:=by simp[sizeOf,typeInfo,hi]
 have hb:Below w.heap.size w (w.alloc (.cells #[] el)):=(Below.refl _ _).alloc (Nat.le_refl _) _;have hF:=Fz.alloc hs (.cells #[] el);have hk:∀b,b<w.heap.size->(w.alloc (.cells #[] el)).heap[b]? =w.heap[b]? :=λb hb=>bz hb;have hnew:∀b,(Cz.tok 0 (.slice (some ⟨w.heap.size,0,none⟩) 0 0)).has b->w.heap.size<=b:=by grind [Cz.has,Value.ownBlock]
 refine⟨.slice (some ⟨w.heap.size,0,none⟩) 0 0,w.alloc (.cells #[] el),?_,Ev.push hs hF hk sM rfl rfl rfl hnew,SR.push hs hF hk sM ?_ hnew,hb,λb hb=>by simp only[Value.ownBlock,ay] at hb;omega⟩;simp[execOp,Instr.buildSlice,run_underlying ht,hso,Instr.fill,newRow];grind;refine⟨_,[],rfl,⟨sM, .inr ⟨w.heap.size,0, #[],rfl,Nat.zero_le _,heap_alloc_new w _,Nat.le_refl _,Nat.zero_le _,sM,sM⟩⟩,by simp[RAs],sM,λb hb=>?_⟩;simp only[Value.ownBlock,ay] at hb;exact hs.lt _ oM
def upB(k:Nat)(es:List Nat)(c:List Bool):List Bool:=List.zipWith (λe b=>b||Nat.beq e k) es c
theorem qc(k:Nat)(L:Nat->Bool):∀es:List Nat,upB k es (es.map L)=es.map λe=>L e||Nat.beq e k
 |[]=>rfl
 |e::es=>by simp only[upB,List.map_cons,List.zipWith_cons_cons,List.cons.injEq,true_and];exact qc k L es
def uq:Nat->List (List Bool)
 |0=> [[]]
 |n+1=>(uq n).map (false::·)++(uq n).map (true::·)
theorem ob:∀{n:Nat}(c:List Bool),c.length=n->c∈uq n
 |0,[],_=>by simp[uq]
 |n+1,b::c,h=>by
  have ih:=ob c (Nat.succ.inj h);cases b;exact List.mem_append.2 (.inl (List.mem_map.2 ⟨c,ih,rfl⟩));exact List.mem_append.2 (.inr (List.mem_map.2 ⟨c,ih,rfl⟩))
 |0,_::_,h=>by simp at h
 |_+1,[],h=>by simp at h
theorem eY{L:Nat->Bool}:∀{es:List Nat}{y:Nat}{b:Bool},(y,b)∈es.zip (es.map L)->y∈es/\b=L y
 |e::es,y,b,h=>by
  rcases List.mem_cons.1 h with h|h
  simp_all;exact⟨List.mem_cons_of_mem _ (eY h).1,(eY h).2⟩
def ObT(P:Program)(e:En)(l:List Oper)(rs:List AV)(base:Env)(s s':List AO)(k:Nat)(o:Oper)(pk bk:List Nat):Prop:=
 ∀F:Env,WL P e l.toArray [o] (dq l rs base pk bk++F) s λenv' st'=>st'=s'/\∃pre,env'=pre++(dq l rs base pk bk++F)/\
  (∀t x,pre.get t=some x->o.dst=some t)/\∀d r,o.dst=some d->rs[k]? =some r->pre.get d=some r
def jH(l:List Oper)(tc:List (List Nat))(es:List Nat)(plan:List (List Nat×List Nat×List (List Bool))):Bool:=
 sO l tc&&fL (l.filterMap (·.dst))&&Nat.beq plan.length l.length&&
 (List.range l.length).all λk=>match plan[k]? with
  |none=>false
  |some (pk,bk,cs)=>(pk.all λj=>(tc.getD k []).contains j)&&
   (bk.all λx=>(List.range l.length).all λj=>match l[j]? with|some o=> !(o.dst==some x)||Nat.beq j k||(tc.getD j []).contains k|none=>true)&&
   (uq es.length).all λc=>cs.contains c||(es.zip c).any λp=>(p.2&&(Nat.beq p.1 k||(tc.getD p.1 []).contains k))||(!p.2&&(tc.getD k []).contains p.1)||
    (p.2&&(es.zip c).any λq=> !q.2&&(tc.getD p.1 []).contains q.1)
section
variable{P:Program}{e:En}{l:List Oper}{rs:List AV}{base:Env}{sts:List Bool->List AO}{es:List Nat}
theorem l9:∀{es:List Nat}{L:Nat->Bool},(∀y,L y=false)->es.map L=List.replicate es.length false
 |[],_,_=>rfl
 |e::es,L,h=>by rw[List.map_cons,h e,l9 h];rfl
theorem od:∀{es:List Nat}{L:Nat->Bool},(∀y∈es,L y=true)->es.map L=List.replicate es.length true
 |[],_,_=>rfl
 |e::es,L,h=>by rw[List.map_cons,h e List.mem_cons_self,od (λy hy=>h y (List.mem_cons_of_mem _ hy))];rfl
end
end Go.Sk
namespace Go.Sk
open Go.RowKit (Below)
theorem gW{α:Type}{k:Nat}:∀(l:List (List α))(n:Nat),(∀e∈l,e.length=k)->(l.drop n).flatten=l.flatten.drop (n*k)
 |[],n,_=>sM
 |e::l,0,_=>sM
 |e::l,n+1,hl=>by
  have he:=hl e sM;have ih:=gW l n (λe he=>hl e (by simp[he]));have h1:e.drop ((n+1)*k)=[]:=List.drop_of_length_le (by rw[he,Nat.succ_mul];omega);have h2:(n+1)*k - k=n*k:=by rw[Nat.succ_mul];omega
  rw[List.drop_succ_cons,List.flatten_cons,ih,List.drop_append,he,h1,List.nil_append,h2]
theorem fh{α:Type}{k:Nat}:∀(l:List (List α))(n:Nat),(∀e∈l,e.length=k)->(l.take n).flatten=l.flatten.take (n*k)
 |[],n,_=>sM
 |e::l,0,_=>sM
 |e::l,n+1,hl=>by
  have he:=hl e sM;have ih:=fh l n (λe he=>hl e (by simp[he]));have h1:e.take ((n+1)*k)=e:=List.take_of_length_le (by rw[he,Nat.succ_mul];omega);have h2:(n+1)*k - k=n*k:=by rw[Nat.succ_mul];omega
  rw[List.take_succ_cons,List.flatten_cons,List.flatten_cons,ih,List.take_append,he,h1,h2]
theorem WL.st{P:Program}{e:En}{ops:Array Oper}{rest:List Oper}{env:Env}{st st':List AO}{R:Env->List AO->Prop}(hs:st=st')(h:WL P e ops rest env st' R):WL P e ops rest env st R:=hs▸h
structure SlV where
 a:Option Addr
 n:Nat
 c:Nat
abbrev SlV.v(x:SlV):Value:= .slice x.a x.n x.c
def Piece(st:List AO)(x:AV)(id ver off len lo:Nat):Prop:=
 x= .ow id ver off len lo\/(x= .os id ver/\off=0/\lo=0/\∃T k es,st[id]? =some (.os T k ver es)/\len=es.length)
theorem Piece.ow{st:List AO}{id ver off len lo:Nat}:Piece st (.ow id ver off len lo) id ver off len lo:= .inl rfl
section
variable{P:Program}{env:Env}{st:List AO}{dst:Option Tmp}{ty:TypeId}{pos:String}{after:Array Edge}{guard:Option (Nat×Bool)}
theorem rF{m φ w}{x:AV}{v:Value}{id ver off len lo:Nat}{T k:Nat}{es:List (List AV)}(hs:SR m φ st w)(hx:Piece st x id ver off len lo)(h:RA m φ w x v)(hi:st[id]? =some (.os T k ver es)):
  ∃y xs,m[id]? =some (.tok ver y)/\w.ownsRow 0 T k y es.length xs/\RAs m φ w es.flatten xs/\(∀e∈es,e.length=k)/\(∀b,y.ownBlock=some b->φ b=0)/\
   ((y= .slice none 0 0/\v= .slice none 0 0/\len=0)\/∃b n cap off',y= .slice (some ⟨b,0,none⟩) n cap/\v= .slice (some ⟨b,off',none⟩) len (cap - lo)/\(off'=off\/len=0)):=by
 rcases hx with rfl|⟨rfl,rfl,rfl,T',k',es',hi',rfl⟩
 simp only[RA] at h;obtain⟨v0,y0,g1,g2,g3⟩:=h;obtain⟨y,xs,e1,r1,r2,r3,r4⟩:=hs.obj id _ _ hi g1;simp only[Cz.tok.injEq] at e1;obtain⟨rfl,rfl⟩:=e1;exact⟨y0,xs,g1,r1,r2,r3,r4,g3 rfl⟩;rw[hi] at hi';simp only[ay,AO.os.injEq,true_and] at hi';obtain⟨rfl,rfl,rfl⟩:=hi';simp only[RA] at h;obtain⟨v0,y0,g1,g2,g3⟩:=h;obtain⟨y,xs,e1,r1,r2,r3,r4⟩:=hs.obj id _ _ hi g1;simp only[Cz.tok.injEq] at e1;obtain⟨rfl,rfl⟩:=e1;have:=g3 rfl;subst this;refine⟨v,xs,g1,r1,r2,r3,r4,?_⟩;rcases r1.2 with⟨rfl,h0⟩|⟨g,cap,cur,rfl,_⟩
 exact .inl ⟨rfl,rfl,h0⟩;exact .inr ⟨g,_,cap,0,rfl,rfl, .inl rfl⟩
theorem y_com{x:Operand}{T:TypeId}{k:IntKind}{p c:Int}(hx:opv env x=some (.d (.v (.int k p))))(hw:k.wrap (BitVec.ofInt k.bits (if k.signed then -1 else k.max)^^^BitVec.ofInt k.bits p).toNat=c):Yields P env st ⟨dst, .unOp .xor T x,ty,pos,after,guard⟩ (.d (.v (.int k c))):=λm φ a w _ he=>by
 subst hw;exact⟨_,RAv,λw' _=>by simp[execOp,aV he hx,Op.unary,Op.intBits]⟩
theorem pU{T n:Nat}{bb:Bool}{x ix:Operand}{α:Type}{E:α->D}(tab:List α){kk:IntKind}{i:Int}{z:α}(hT:dZ P T=some (n,1,bb))(hx:opv env x=some (.d (.pc (tab.map E))))(hi:opv env ix=some (.d (.v (.int kk i))))(hl:tab.length=n)(h:idx tab i=some z):
  Yields P env st ⟨dst, .indexAddr T x ix,ty,pos,after,guard⟩ (.d (.pc [E z])):=λm φ a w hs he=>by
 obtain⟨v,h1,h2⟩:=fd (dst:=dst) (ty:=ty) (pos:=pos) (after:=after) (guard:=guard) hT hx hi (aL h) (by rw[<-hl];exact mW h) m φ a w hs he;refine⟨v,?_,h2⟩;obtain⟨b,off,g1,g2⟩:=h1;refine⟨b,off,g1,?_⟩;have hz:=eZ h;have hd:(tab.map E).drop (i.toNat*1)=E z::(tab.map E).drop (i.toNat+1):=by grind [List.drop_eq_getElem_cons]
 grind [RPs]
end
end Go.Sk
namespace Go.Sk
open Go.RowKit (Below)
def AV.ok1S(st:List AO):AV->Bool
 | .os id ver=>match st[id]? with|some (.os _ _ v _)=>Nat.beq v ver|_=>false
 | .pe id ver _=>match st[id]? with|some (.os _ _ v _)=>Nat.beq v ver|_=>false
 |x=>x.ok1
theorem je{m φ w st}(hs:SR m φ st w):∀{xs:List AV}{vs:List Value},RAs m φ w xs vs->xs.all (AV.ok1S st)=true->∀v∈vs,v.oneCell'=true
 |[],vs,h,_,v,hv=>by simp only[RAs] at h;subst h;simp at hv
 |x::xs,vs,h,hk,v,hv=>by
  obtain⟨c,cs,rfl,h2,h3⟩:=h;simp only[List.all_cons,Bool.and_eq_true] at hk;rcases List.mem_cons.1 hv with rfl|hv
  have key:∀y:AV,RA m φ w y v->y.ok1S st=true->v.oneCell'=true:=λy hy hky=>by
   cases y with
   |os id ver=>grind [AV.ok1S,nbE,dp]
   |pe id ver off=>grind [AV.ok1S,nbE,sZ]
   |_=>exact pL hy hky
  exact key x h2 hk.1;exact je hs h3 hk.2 v hv
section
variable{P:Program}{env:Env}{st:List AO}{dst:Option Tmp}{ty:TypeId}{pos:String}{after:Array Edge}{guard:Option (Nat×Bool)}
theorem ub{T:TypeId}{x y:Operand}{id off n:Nat}{T':TypeId}{cs:List AV}{r:AV}{rs:List AV}(hx:opv env x=some (.pt id off))(hs:st[id]? =some (.row T' cs))(hy:opv env y=some r)(hk:r.okS st=true)(hc:r.cells=rs)(hk1:rs.all (AV.ok1S st)=true)
  (hn:bt P T=some n)(hl:rs.length=n)(hlen:Nat.ble (off+n) cs.length=true):
  Does P env st ⟨dst, .store T x y,ty,pos,after,guard⟩ (.d (.v undef)) (st.set id (.row T' (cs.take off++rs++cs.drop (off+n)))):=λm φ a w hsr he=>by
 obtain⟨b,h1,h2⟩:=fK he hx;obtain⟨b',hbb,_,vs,h3,h4⟩:=hsr.obj id _ _ hs h1;simp only[Cz.blk.injEq] at hbb;subst hbb;obtain⟨us,g1,g2⟩:=fx hsr (bd he hy) hk;rw[hc] at g2;have hul:=a9 g2;have hvl:=a9 h4;have hle:=nbT hlen;have hst:=run_storeCells_at P b off T' us 0 ⟨vs⟩ w h3 (by simp;omega) (je hsr g2 hk1);have hnew:RAs m φ w (cs.take off++rs++cs.drop (off+n)) (vs.take off++us++vs.drop (off+n)):=by grind [ba,cq,cx]
 obtain⟨k1,k2⟩:=mK hsr hs h1 hnew;refine⟨undef,_,m,φ, .inr ⟨?_,rfl⟩,k1,k2,RAv⟩;simp_all [execOp,Instr.storeAt,Instr.sureAddr,storeVar,aP]
end
section
variable{P:Program}{e:En}{ops:Array Oper}{rest:List Oper}{env:Env}{st:List AO}{R:Env->List AO->Prop}{ty:TypeId}{pos:String}{after:Array Edge}{d:Nat}{op:Op}{r:AV}{x:Operand}{k:Ko}
theorem WL.qn(hy:Yields P env st ⟨some d,op,ty,pos,after,none⟩ r)(hd:Nat.ble (d+1) e.n=true)(h:WL P e ops rest ((d,r)::env) st R):WL P e ops (⟨some d,op,ty,pos,after,none⟩::rest) env st R:=WL.q hy (Wt.none rfl) rfl hd h
theorem WL.ns{y:Code}(h:WC P e y k env st):WL P e ops [] env st (λenv' st'=>WE P e .normal (.seq y k) env' st'):=WL.nil (pb h)
theorem WL.qy{j t:Nat}{b:Bool}(hy:Yields P env st ⟨some d,op,ty,pos,after,some (j,b)⟩ r)(hj:(ops[j]?).bind (·.dst)=some t)(hx:env.get t=some (.d (.v (.bool b))))(hd:Nat.ble (d+1) e.n=true)(h:WL P e ops rest ((d,r)::env) st R):WL P e ops (⟨some d,op,ty,pos,after,some (j,b)⟩::rest) env st R:=by grind [WL.q,ce]
theorem WQ.qn{n:Nat}{RQ:Env->Prop}(hy:Yields P env st ⟨some d,op,ty,pos,after,none⟩ r)(hd:Nat.ble (d+1) n=true)(h:WQ P n ops rest ((d,r)::env) st RQ):WQ P n ops (⟨some d,op,ty,pos,after,none⟩::rest) env st RQ:=WQ.q (Yields.quiet hy) (Wt.none rfl) rfl hd h
theorem WQ.qy{n j t:Nat}{b:Bool}{RQ:Env->Prop}(hy:Yields P env st ⟨some d,op,ty,pos,after,some (j,b)⟩ r)(hj:(ops[j]?).bind (·.dst)=some t)(hx:env.get t=some (.d (.v (.bool b))))(hd:Nat.ble (d+1) n=true)(h:WQ P n ops rest ((d,r)::env) st RQ):WQ P n ops (⟨some d,op,ty,pos,after,some (j,b)⟩::rest) env st RQ:=WQ.q (Yields.quiet hy) (ce rfl hj hx) rfl hd h
end
end Go.Sk
namespace Go.Sk
section
variable{e:En}{env:Env}{st:List AO}
theorem og{n fid ver:Nat}(h:Nat.ble (fid+1) n=true):∀l:List Nat,AV.lts n ((l.map λi=> [AV.osf fid i ver]).flatten)=true
 |[]=>rfl
 |i::l=>by
  simp only[List.map_cons,List.flatten_cons,List.cons_append,List.nil_append,AV.lts,AV.lt,h,og h l,Bool.and_self]
theorem xD(n T k v fid ver m:Nat)(h:Nat.ble (fid+1) n=true):AO.lt n (.os T k v (famE fid ver m))=true:=og h _
theorem tq{α:Type}(n T k v:Nat)(E:α->List D):∀L:List (List α),AO.lt n (.fam T k v (famM E L))=true
 |[]=>rfl
 |l::L=>by
  have h1:=om n T k v E l;have h2:=tq n T k v E L;grind [AO.lt,vy]
end
end Go.Sk
namespace Go.Sk
open Go.RowKit (Below)
def Rd(e:En)(id:Nat):Prop:=∃l,e.rd=some l/\e.m[id]? =some (.blk l)
theorem oC:∀(ps:List Nat)(vals:List Value)(tm:Array Value),ps.Nodup->(∀p∈ps,p<tm.size)->
  ((List.zip ps vals).foldl (λtmps (x:Nat×Value)=>tmps.setIfInBounds x.1 x.2) tm).size=tm.size/\
  (∀(i p:Nat)(v:Value),ps[i]? =some p->vals[i]? =some v->((List.zip ps vals).foldl (λtmps (x:Nat×Value)=>tmps.setIfInBounds x.1 x.2) tm)[p]? =some v)/\
  (∀t,t∉ps->((List.zip ps vals).foldl (λtmps (x:Nat×Value)=>tmps.setIfInBounds x.1 x.2) tm)[t]? =tm[t]?)
 |[],vals,tm,_,_=>sM
 |p::ps,[],tm,_,_=>sM
 |p::ps,v::vals,tm,hn,hlt=>by
  obtain⟨n1,n2⟩:=List.nodup_cons.1 hn;simp only[List.zip_cons_cons,List.foldl_cons];obtain⟨h1,h2,h3⟩:=oC ps vals (tm.setIfInBounds p v) n2 (λq hq=>by simpa using hlt q (List.mem_cons_of_mem _ hq));refine⟨by rw[h1];simp,λi q u hi hv=>?_,λt ht=>?_⟩;cases i with
  |zero=>simp only[List.getElem?_cons_zero,ay] at hi hv;subst hi;subst hv;rw[h3 _ n1];simp[hlt p List.mem_cons_self]
  |succ i=>exact h2 i q u (by simpa using hi) (by simpa using hv)
  have h4:t≠p:=λh=>ht (by rw[h];exact List.mem_cons_self);rw[h3 t (λh=>ht (List.mem_cons_of_mem _ h)),Array.getElem?_setIfInBounds_ne (Ne.symm h4)]
theorem mx:∀{ts:List Nat}{vs:List AV}{t:Nat}{x:AV},Env.get (List.zip ts vs) t=some x->∃i:Nat,ts[i]? =some t/\vs[i]? =some x
 |[],vs,t,x,h=>by simp[Env.get] at h
 |k::ts,[],t,x,h=>by simp[Env.get] at h
 |k::ts,v::vs,t,x,h=>by
  simp only[List.zip_cons_cons] at h;rw[bi] at h;split at h;rename_i ht;simp only[ay] at h;subst h;subst ht;exact⟨0,sM,sM⟩;obtain⟨i,h1,h2⟩:=mx h;exact⟨i+1,by simpa using h1,by simpa using h2⟩
theorem get_append{a b:Env}{t:Nat}:Env.get (a++b) t=match Env.get a t with|some x=>some x|none=>Env.get b t:=by
 induction a with
 |nil=>simp[Env.get]
 |cons p a ih=>obtain⟨k,v⟩:=p;rw[List.cons_append,bi,bi];split;rfl;exact ih
theorem nB:∀{ts:List Nat}{vs:List AV}{t:Nat},ts.length=vs.length->Env.get (List.zip ts vs) t=none->t∉ts
 |[],vs,t,_,_=>sM
 |k::ts,[],t,hl,h=>by simp at hl
 |k::ts,v::vs,t,hl,h=>by
  simp only[List.zip_cons_cons] at h;rw[bi] at h;split at h;cases h;rename_i hk;have:=nB (by simpa using hl) h;simp[hk,this]
theorem sW{α:Type}{m:List α}{i:Nat}{c:α}(h:m[i]? =some c):m.set i c=m:=by apply List.ext_getElem?;intro j;by_cases hj:j=i;subst hj;rw[List.getElem?_set_self (giS.1 h).1,h];rw[List.getElem?_set_ne (Ne.symm hj)]
theorem po{m:List Cz}{φ:Nat->Nat}{st:List AO}{w:World}{id l:Nat}{o:AO}{r r':Loop}(hs:SR m φ st w)(hi:st[id]? =some o)(hl:o.live=true)(hc:m[id]? =some (.blk l))(hh:w.heap[l]? =some (.loop r)){o':AO}(hlv:o'.live=true\/(∀b,(Cz.blk l).has b->(Cz.blk l).has b))
  (ho:∀w',w'.heap[l]? =some (.loop r')->Fz φ w φ w'->OR m φ w' o' (.blk l)):
  Ev m φ w m φ (w.putObj l (.loop r'))/\SR m φ (st.set id o') (w.putObj l (.loop r')):=by
 have hlt:=bY hh;have hF:Fz φ w φ (w.putObj l (.loop r')):=λb off c h1 h2=>by
  refine⟨h1,?_⟩;have hb:b≠l:=λh=>by subst h;have h2:=dO h2;simp[World.cell?,hh] at h2
  rw[cZ (dm hb)];exact h2
 have hm:=sW hc;have:=fG (m:=m) (φ:=φ) (φ':=φ) (st:=st) (w:=w) (w':=w.putObj l (.loop r')) (o':=o') (c':= .blk l) hs hi hl hc (Cz.le_refl _) rfl rfl rfl sM (λb _ hb=>⟨dm λh=>hb h.symm,rfl⟩) hF (λb hb=>hs.lt b (by simpa using hb)) (λb h=> .inl h)
  (by rw[hm];exact ho _ (World.putObj_heap_same hlt) hF) hlv
 rwa [hm] at this
section
variable{P:Program}{e:En}{ops:Array Oper}{rest:List Oper}{o:Oper}{env:Env}{st:List AO}{R:Env->List AO->Prop}{d:Nat}{k:Ko}
theorem lA{m φ w a}{c:Call}{x:Operand}{id l:Nat}{asz:List AV}{r:Loop}(h:EnvOk m φ w env a)(hop:o.op= .call c)(hx:c.callee= .value x)(hf:opv env x=some (.yl id))(has:cw env c.args.toList=some asz)
  (hm:m[id]? =some (.blk l))(hh:w.heap[l]? =some (.loop r))(hp:asz.length=r.params.size):
  ∃vs,RAs m φ w asz vs/\(execOp a.eval o).run P w= .ok (.round l r.fn ((r.params.zip ⟨vs⟩).foldl (λtmps (t,a)=>tmps.setIfInBounds t a) r.tmps) r.assign r.body) w:=by
 have hv:=bd h hf;simp only[RA] at hv;obtain⟨b,h1,h2⟩:=hv;rw[hm] at h1;simp only[ay,Cz.blk.injEq] at h1;subst h1;have h4:=gJ h has;refine⟨c.args.toList.map a.eval,h4,?_⟩;have e1:(#[]++c.args.map a.eval:Array Value)=⟨c.args.toList.map a.eval⟩:=by apply Array.toList_inj.mp;simp
 have hl:=a9 h4;simp only[execOp,hop,resolve,hx,h2,Deferred.ofValue,Sem.run_bind,Sem.run_pure,Result.andThen_ok,invoke,e1];exact run_yield hh (by simpa[hl] using hp)
theorem mv{c:Call}{x:Operand}{id:Nat}{asz:List AV}{s:LpS}{vs:List AV}{pd:Option Code}(Q:AV->List AO->Prop)(hop:o.op= .call c)(hx:c.callee= .value x)(hf:opv env x=some (.yl id))(has:cw env c.args.toList=some asz)
  (hs:st[id]? =some (.lp s vs .ready pd))(hp:Nat.beq asz.length s.ps.length=true)(hps:fL s.ps=true)(hpn:(s.ps.all λp=>Nat.blt p s.n)=true)(_hts:Nat.beq s.ts.length vs.length=true)
  (hr:∀e':En,e'.n=s.n->Rd e' id->e'.m.length=st.length->WC P e' s.asg (.asg s.body (.rend Q)) (List.zip s.ps asz++List.zip s.ts vs) st)
  (hw:Wt ops env o true)(ho:o.dst=some d)(hd:Nat.ble (d+1) e.n=true)(h:∀r st',Q r st'->WL P e ops rest ((d,r)::env) st' R):WL P e ops (o::rest) env st R:=λm φ a w hi=>by
 have hidl:=(giS.1 hs).1;obtain⟨c0,hc0⟩:∃c,m[id]? =some c:=⟨_,geG (by rw[hi.sr.len];exact hidl)⟩;obtain⟨b,rfl,h0,r,us,g1,⟨g2,g3,g4,g5,g6,g7,g8⟩,g9⟩:=hi.sr.obj id _ c0 hs hc0;have hp':=nbE hp;obtain⟨vals,k1,k2⟩:=lA (P:=P) hi.env hop hx hf has hc0 g1 (by rw[hp',g3];simp);unfold eT;rw[if_pos (hw _ _ _ _ hi.env)];refine .inr ⟨b,r.fn,_,r.assign,r.body,w,k2,?_⟩;have hvl:=a9 k1;have hz:(r.params.zip (⟨vals⟩:Array Value)).foldl (λtmps (t,a)=>tmps.setIfInBounds t a) r.tmps=(List.zip s.ps vals).foldl (λtmps (x:Nat×Value)=>tmps.setIfInBounds x.1 x.2) r.tmps:=by rw[<-Array.foldl_toList,Array.toList_zip,g3]
 obtain⟨f1,f2,f3⟩:=oC s.ps vals r.tmps (ej hps) (λp hp=>by
  have:=List.all_eq_true.1 hpn p hp;rw[g2];simpa[Nat.blt_eq] using this)
 rw[hz];let e':En:=⟨m,φ,w,s.n,some b,none⟩;have hinv:Inv e' m φ (List.zip s.ps asz++List.zip s.ts vs) st { tmps:=(List.zip s.ps vals).foldl (λtmps (x:Nat×Value)=>tmps.setIfInBounds x.1 x.2) r.tmps,defers:=[] } w:=by
  refine⟨hi.sr,Ev.refl m φ w,⟨λt y hy=>?_,hi.sr.gl⟩,by rw[f1];exact g2,trivial⟩;rw[get_append] at hy;cases hz:Env.get (List.zip s.ps asz) t with
  |some z=>rw[hz] at hy;simp only[ay] at hy;subst hy;obtain⟨i,q1,q2⟩:=mx hz;obtain⟨v,q3,q4⟩:=cF k1 q2;exact⟨v,f2 i t v q1 q3,q4⟩
  |none=>rw[hz] at hy;have hnt:=nB (by rw[hp']) hz;obtain⟨i,q1,q2⟩:=mx hy;obtain⟨v,q3,q4⟩:=cF g9 q2;exact⟨v,by rw[f3 t hnt];exact g8 i t v q1 q3,q4⟩
 have hwc:=hr e' rfl ⟨b,rfl,hc0⟩ hi.sr.len m φ _ w hinv;have hround:RoundIn Fence.wide 0 P b r.fn ((List.zip s.ps vals).foldl (λtmps (x:Nat×Value)=>tmps.setIfInBounds x.1 x.2) r.tmps) r.assign r.body w (dz e' Q):=by refine roundIn_of_wpIn trivial ?_;rw[g4,g5];exact hwc
 refine hround.mono ?_;rintro en w'' ⟨v,r',st',m',φ',rfl,hQ,hev,hsr,hra⟩;refine⟨v,rfl,?_⟩;rw[ho];exact h r' st' hQ m' φ' _ w'' (hi.ev_put hev hsr (nbT hd) hra)
theorem hH{body:Code}{id:Nat}{s:LpS}{vs:List AV}{pd:Option Code}(hrd:Rd e id)(hs:st[id]? =some (.lp s vs .ready pd))(h:WC P e body k env (st.set id (.lp s vs .busy pd))):WE P e .normal (.asg body k) env st:=λm φ a w hi=>by
 obtain⟨l,h1,h2⟩:=hrd;have hc:=hi.ev.pre.blk h2;obtain⟨b,hb,h0,r,us,g1,g2,g3⟩:=hi.sr.obj id _ _ hs hc;simp only[Cz.blk.injEq] at hb;subst hb;obtain⟨q1,q2⟩:=po (r':={ r with state:= .busy }) (o':= .lp s vs .busy pd) hi.sr hs rfl hc g1 (.inl rfl) (λw' e1 hF=>⟨l,rfl,h0,_,us,e1,⟨g2.1,g2.2.1,g2.2.2.1,g2.2.2.2.1,rfl,g2.2.2.2.2.2.1,g2.2.2.2.2.2.2⟩,RAs.mono (Pre.refl m) hF _ _ g3⟩);have:=h m φ a _ (hi.go q1 q2);have hst:r.state= .ready:=g2.2.2.2.2.1;show(match e.rd with|some l=>∃w₂,(Instr.beginRound l).run P w= .ok () w₂/\body.wpIn (EF e.rd) 0 P (k.den P e) a w₂|none=>False);rw[h1];exact⟨_,run_beginRound g1 hst,by rw[h1] at this;exact this⟩
theorem kE{Q:AV->List AO->Prop}{id:Nat}{s:LpS}{vs:List AV}{pd:Option Code}(jump:Option Code)(hrd:Rd e id)(hs:st[id]? =some (.lp s vs .busy pd))
  (hQ:Q (.d (.v (.bool jump.isNone))) (st.set id (.lp s vs (if jump.isNone then .ready else .done) jump))){m φ a w}(hi:Inv e m φ env st a w):
  ∃l,e.rd=some l/\∃v w',(Instr.endRound l jump).run P w= .ok v w'/\dz e Q (.returned v) w':=by
 obtain⟨l,h1,h2⟩:=hrd;have hc:=hi.ev.pre.blk h2;obtain⟨b,hb,h0,r,us,g1,g2,g3⟩:=hi.sr.obj id _ _ hs hc;simp only[Cz.blk.injEq] at hb;subst hb;obtain⟨q1,q2⟩:=po (r':={ r with state:=if jump.isNone then .ready else .done,pending:=jump }) (o':= .lp s vs (if jump.isNone then .ready else .done) jump) hi.sr hs rfl hc g1 (.inl rfl) (λw' e1 hF=>⟨l,rfl,h0,_,us,e1,⟨g2.1,g2.2.1,g2.2.2.1,g2.2.2.2.1,rfl,rfl,g2.2.2.2.2.2.2⟩,RAs.mono (Pre.refl m) hF _ _ g3⟩);exact⟨l,h1,_,_,run_endRound jump g1,_,_,_,m,φ,rfl,hQ,hi.ev.trans q1,q2,by simp[RA,RD]⟩
theorem fF{Q:AV->List AO->Prop}{id:Nat}{s:LpS}{vs:List AV}{pd:Option Code}(hrd:Rd e id)(hs:st[id]? =some (.lp s vs .busy pd))
  (hQ:Q (.d (.v (.bool true))) (st.set id (.lp s vs .ready none))):WE P e .normal (.rend Q) env st:=λm φ a w hi=>by
 obtain⟨l,h1,h2⟩:=kE (P:=P) none hrd hs hQ hi;show(match e.rd with|some l=>roundPost P l (dz e Q)|none=>λ_ _ _=>False) .normal a w;rw[h1];exact h2
theorem de{Q:AV->List AO->Prop}{id:Nat}{s:LpS}{vs:List AV}{pd:Option Code}(hrd:Rd e id)(hs:st[id]? =some (.lp s vs .busy pd))
  (hQ:Q (.d (.v (.bool false))) (st.set id (.lp s vs .done (some .ret)))):WE P e .ret (.rend Q) env st:=λm φ a w hi=>by
 obtain⟨l,h1,h2⟩:=kE (P:=P) (some .ret) hrd hs hQ hi;show(match e.rd with|some l=>roundPost P l (dz e Q)|none=>λ_ _ _=>False) .ret a w;rw[h1];exact h2
theorem mC{Q:AV->List AO->Prop}{id i:Nat}{s:LpS}{vs:List AV}{pd:Option Code}(hrd:Rd e id)(hs:st[id]? =some (.lp s vs .busy pd))
  (hQ:Q (.d (.v (.bool false))) (st.set id (.lp s vs .done (some (.exit i))))):WE P e (.exit i) (.rend Q) env st:=λm φ a w hi=>by
 obtain⟨l,h1,h2⟩:=kE (P:=P) (some (.exit i)) hrd hs hQ hi;show(match e.rd with|some l=>roundPost P l (dz e Q)|none=>λ_ _ _=>False) (.exit i) a w;rw[h1];exact h2
def oW(P:Program)(e:En)(k:Ko)(env:Env)(id:Nat)(st':List AO):Prop:=
 ∃st2 s vs stt pend,SLe st' st2/\st2[id]? =some (.lp s vs stt pend)/\stt≠ .busy/\
  match pend with
  |none=>WE P e .normal k env (st2.set id .dead)
  |some .ret=>WE P e .ret k env (st2.set id .dead)
  |some (.exit i)=>WE P e (.exit i) k env (st2.set id .dead)
  |_=>False
theorem nN{m φ w}{a:Act}(he:EnvOk m φ w env a):∀{ts:List Nat}{vs:List AV},cw env (ts.map .tmp)=some vs->∃us,RAs m φ w vs us/\∀(i t:Nat)(u:Value),ts[i]? =some t->us[i]? =some u->a.tmps[t]? =some u
 |[],vs,h=>by simp only[List.map_nil,cw,ay] at h;subst h;exact⟨[],cf,λi t u h=>by simp at h⟩
 |t::ts,vs,h=>by
  simp only[List.map_cons,cw] at h;split at h;rename_i y ys h1 h2;simp only[ay] at h;subst h;obtain⟨us,g1,g2⟩:=nN he h2;obtain⟨v,q1,q2⟩:=he.get t y h1;refine⟨v::us,bp q2 g1,λi t' u hi hu=>?_⟩;cases i with
  |zero=>simp only[List.getElem?_cons_zero,ay] at hi hu;subst hi;subst hu;exact q1
  |succ i=>exact g2 i t' u (by simpa using hi) (by simpa using hu)
  cases h
theorem lB{m φ w a}{f:FuncId}{g:Operand}{first caps:List AV}{l:Nat}(h:EnvOk m φ w env a)(hf:opv env g=some (.fn (.func f) first caps))(hc:nA P f):
  ∃fs cs,RAs m φ w first fs/\RAs m φ w caps cs/\∃d:Deferred,(∀w',(resolve a.eval (rangeCall g l) 0).run P w'= .ok d w')/\∀w',(invoke d.target d.args).run P w'= .ok (.enter f ⟨fs++ .func (.yield l) #[] #[]::cs⟩) w':=by
 have hv:=bd h hf;simp only[RA] at hv;obtain⟨fs,cs,h1,h2,h3⟩:=hv;obtain⟨fn,g1,g2,g3⟩:=hc;refine⟨fs,cs,h2,h3,⟨.fn (.func f) ⟨cs⟩,⟨fs⟩++ #[.func (.yield l) #[] #[]]⟩,λw'=>?_,λw'=>?_⟩;have e0:(a.eval (.const (.func (.yield l) #[] #[])))= .func (.yield l) #[] #[]:=rfl;simp only[resolve,h1,Deferred.ofValue,Sem.run_pure,List.map_toArray,List.map_cons,List.map_nil,e0];have e1:(⟨fs⟩++ #[.func (.yield l) #[] #[]]++⟨cs⟩:Array Value)=⟨fs++ .func (.yield l) #[] #[]::cs⟩:=by apply Array.toList_inj.mp;simp
 simp only[invoke,callFunc,Sem.run_bind,run_program,g1,g2,Bool.false_eq_true,ite_false,g3,Sem.run_pure,Result.andThen_ok,e1]
theorem lQ{g:Operand}{ps:Array Tmp}{asg body:Code}{f:FuncId}{first caps:List AV}(ts:List Nat){vs:List AV}(Q:AV->List AO->Prop)(hrd:e.rd=none)(hg:opv env g=some (.fn (.func f) first caps))(hts:cw env (ts.map .tmp)=some vs)
  (hc:Ctr P f (first++ .yl st.length::caps) (st++ [.lp ⟨e.n,ts,ps.toList,asg,body⟩ vs .ready none]) Q)
  (h:∀r st',Q r st'->oW P e k env st.length st')(hnd:e.ds=none):WC P e (.rangeFunc g ps asg body) k env st:=λm φ a w hi=>by
 refine wpIn_rangeFunc λfn _=>?_;obtain⟨fs,cs,h1,h2,d,h3,h4⟩:=lB (P:=P) (l:=w.heap.size+1) hi.env hg hc.1;rw[hrd];refine⟨_,_,_,d,_,f,_,_,run_enterLoop_outer fn a.tmps ps asg body,h3 _,λ_ _=>trivial,h4 _,λhx=>by simp[EF] at hx,iw.2 ?_⟩;obtain⟨us,u1,u2⟩:=nN hi.env hts;let L:Loop:={ state:= .ready,pending:=none,fn,tmps:=a.tmps,params:=ps,assign:=asg,body,defers:=w.heap.size };let w1:World:=(w.alloc (.deferred (some []))).alloc (.loop L);have hs1:(w.alloc (.deferred (some []))).heap.size=w.heap.size+1:=World.size_alloc _ _;have hsz1:w1.heap.size=w.heap.size+2:=by show((w.alloc _).alloc _).heap.size=_;rw[World.size_alloc,hs1]
 have hk1:∀b,b<w.heap.size->w1.heap[b]? =w.heap[b]? :=λb hb=>by
  show((w.alloc _).alloc _).heap[b]? =_;rw[bz (by rw[hs1];omega),bz hb]
 have hl1:w1.heap[w.heap.size+1]? =some (.loop L):=by have:=World.alloc_heap_new (w.alloc (.deferred (some []))) (.loop L);rwa [hs1] at this
 have hd1:w1.heap[w.heap.size]? =some (.deferred (some [])):=by show((w.alloc _).alloc _).heap[w.heap.size]? =_;rw[bz (by rw[hs1];omega)];exact World.alloc_heap_new w _
 have hF1:Fz φ w φ w1:=λb off c q1 q2=>⟨q1,by rw[cZ (hk1 b (cR hi.sr q1))];exact q2⟩;let m1:=m++ [Cz.blk (w.heap.size+1)];have hpre:Pre m m1:=Pre.append m _;have hml:m.length=st.length:=hi.sr.len;have hsr1:SR m1 φ (st++ [.lp ⟨e.n,ts,ps.toList,asg,body⟩ vs .ready none]) w1:=
  hi.sr.push hF1 hk1 oM ⟨_,rfl,hi.sr.lt _ oM,L,us,hl1,⟨hi.sz,by simp[L],rfl,rfl,rfl,rfl,u2⟩,RAs.mono hpre hF1 _ _ u1⟩ (λb hb=>by simp only[Cz.has] at hb;omega)
 have hev1:Ev m φ w m1 φ w1:=by refine⟨hpre,?_,rfl,rfl,rfl,oM,λb hb _=>⟨hk1 b hb,rfl⟩,hF1⟩;rintro b ⟨i,c,q1,q2⟩;rw[db] at q1;split at q1;exact .inl ⟨i,c,q1,q2⟩;split at q1;simp only[ay] at q1;subst q1;simp only[Cz.has] at q2;exact .inr oM;cases q1
 have hra:RAs m1 φ w1 (first++ .yl st.length::caps) (fs++ .func (.yield (w.heap.size+1)) #[] #[]::cs):=by refine ba (RAs.mono hpre hF1 _ _ h1) (bp ?_ (RAs.mono hpre hF1 _ _ h2));simp only[RA];exact⟨_,by rw[<-hml];simp[m1],rfl⟩
 refine(hc.2 m1 φ w1 _ hsr1 hra).mono ?_;rintro en w' ⟨v,r,st',m',φ',rfl,hQ,hev,hsr,_⟩;obtain⟨st2,s,vs2,stt,pend,e1,e2,e3,e4⟩:=h r st' hQ;have hsr2:=hsr.weak e1;have hm1:m1[st.length]? =some (.blk (w.heap.size+1)):=by rw[<-hml];simp[m1]
 have hcm:=hev.pre.blk hm1;obtain⟨b,hb,p0,r2,us2,p1,p2,p3⟩:=hsr2.obj st.length _ _ e2 hcm;simp only[Cz.blk.injEq] at hb;subst hb;obtain⟨q1,q2⟩:=po (r':={ r2 with state:= .exhausted }) (o':= .dead) hsr2 e2 rfl hcm p1 (.inr λ_ h=>h) (λw' _ _=>trivial);have hst:r2.state=stt:=p2.2.2.2.2.1;have hpd:r2.pending=pend:=p2.2.2.2.2.2.1;refine⟨_,_,run_endLoop p1 (by rw[hst];exact e3),?_⟩;have hmk:Marks e.w.heap.size m w a.defers:=by have:=hi.df;rw[hnd] at this;exact this
 have hmark:Marks e.w.heap.size m1 w1 ({ target:= .collected w.heap.size,args:= #[] }::a.defers):=by
  refine⟨⟨w.heap.size,rfl,hd1,?_,hi.ev.size,?_⟩,hmk.ev hev1⟩;rintro⟨i,c,q1,q2⟩;rw[db] at q1;split at q1;exact absurd (hi.sr.nb _ ⟨i,c,q1,q2⟩) (Nat.lt_irrefl _);split at q1;simp only[ay] at q1;subst q1;simp only[Cz.has] at q2;omega;cases q1;have:∀(ds:List Deferred),Marks e.w.heap.size m w ds->∀d'∈ds,d'.target≠ .collected w.heap.size:=by
   intro ds;induction ds with
   |nil=>intro _ d' hd';cases hd'
   |cons d0 ds ih=>
    rintro⟨⟨r0,t1,t2,_⟩,hds⟩ d' hd';rcases List.mem_cons.1 hd' with rfl|hd'
    rw[t1];intro hh;simp only[Target.collected.injEq] at hh;have:=bY t2;omega;exact ih hds d' hd'
  exact this _ hmk
 have hinv:Inv e m' φ' env (st2.set st.length .dead) { a with defers:=[{ target:= .collected w.heap.size,args:= #[] }]++a.defers } (w'.putObj (w.heap.size+1) (.loop { r2 with state:= .exhausted })):=by refine⟨q2,((hi.ev.trans hev1).trans hev).trans q1,?_,hi.sz,(by rw[hnd];exact(hmark.ev hev).ev q1)⟩;have h5:=((hi.env.mono hpre hF1).mono hev.pre hev.fz).mono q1.pre q1.fz;exact⟨h5.get,h5.gl⟩
 generalize hw4:(w'.putObj (w.heap.size+1) (.loop { r2 with state:= .exhausted }))=w4 at hinv⊢;rw[hpd];cases pend with
 |none=>exact e4 m' φ' _ _ hinv
 |some c=>
  cases c with
  |ret=>exact wpIn_ret (e4 m' φ' _ _ hinv)
  |exit i=>exact wpIn_exit (e4 m' φ' _ _ hinv)
  |_=>exact e4.elim
theorem Le.tu{xs ys:List AV}(h:Les xs ys):Le (.tu xs) (.tu ys):=λ_ _ _ _ hh=>by
 simp only[RA] at hh⊢;obtain⟨cs,h1,h2⟩:=hh;exact⟨cs,h1,h.ras h2⟩
theorem WL.weak{l:List Oper}{st':List AO}(h:SLe st st')(hc:WL P e ops l env st' R):WL P e ops l env st R:=λm φ a w hi=>hc m φ a w (hi.weak h)
theorem sI{g:Operand}{ps:Array Tmp}{asg body:Code}{f:FuncId}{first caps us:List AV}(ts:List Nat){vs:List AV}(id:Nat)(Q:LpS->AV->List AO->Prop)(hrd:e.rd=none)(hg:opv env g=some (.fn (.func f) first caps))(hts:cw env (ts.map .tmp)=some vs)(hid:Nat.beq st.length id=true)(has:first++ .yl id::caps=us)
  (hc:∀s,s=LpS.mk e.n ts ps.toList asg body->Ctr P f us (st++ [.lp s vs .ready none]) (Q s))
  (h:∀s r st',Q s r st'->oW P e k env id st')(hnd:e.ds=none:=by rfl):WC P e (.rangeFunc g ps asg body) k env st:=by
 obtain rfl:=nbE hid;subst has;exact lQ ts (Q _) hrd hg hts (hc _ rfl) (h _) hnd
theorem WL.yield{c:Call}{x:Operand}{id n:Nat}{asz:List AV}{s:LpS}{vs:List AV}{pd:Option Code}{ts ps:List Nat}{asg body:Code}{env0:Env}(Q:AV->List AO->Prop)(hsd:s=⟨n,ts,ps,asg,body⟩)(hop:o.op= .call c)(hx:c.callee= .value x)(hf:opv env x=some (.yl id))(has:cw env c.args.toList=some asz)
  (hs:st[id]? =some (.lp s vs .ready pd))(hp:(Nat.beq asz.length ps.length&&fL ps&&(ps.all λp=>Nat.blt p n)&&Nat.beq ts.length vs.length)=true)(he:List.zip ps asz++List.zip ts vs=env0)
  (hr:∀e':En,e'.n=n->Rd e' id->e'.m.length=st.length->WC P e' asg (.asg body (.rend Q)) env0 st)
  (hw:Wt ops env o true)(ho:o.dst=some d)(hd:Nat.ble (d+1) e.n=true)(h:∀r st',Q r st'->WL P e ops rest ((d,r)::env) st' R):WL P e ops (o::rest) env st R:=by
 subst hsd;subst he;simp only[Bool.and_eq_true] at hp;exact mv Q hop hx hf has hs hp.1.1.1 hp.1.1.2 hp.1.2 hp.2 hr hw ho hd h
theorem WL.inl{f:FuncId}{c:Call}{x:Operand}{first caps asz us:List AV}(Q:AV->List AO->Prop)(hop:o.op= .call c)(hx:c.callee= .value x)
  (hf:opv env x=some (.fn (.func f) first caps))(has:cw env c.args.toList=some asz)(he:first++asz++caps=us)(hc:Ctr P f us st Q)
  (hw:Wt ops env o true)(ho:o.dst=some d)(hd:Nat.ble (d+1) e.n=true)(h:∀r st',Q r st'->WL P e ops rest ((d,r)::env) st' R):WL P e ops (o::rest) env st R:=by
 subst he;exact WL.call hop hx hf has hc (Les.refl _) hw ho hd h
end
end Go.Sk
namespace Go.Sk
open Go.RowKit (Below)
section
variable{P:Program}{e:En}{ops:Array Oper}{env:Env}{st:List AO}{R:Env->List AO->Prop}{dst:Option Tmp}{ty:TypeId}{pos:String}{after:Array Edge}{guard:Option (Nat×Bool)}
theorem lh{φ w}:∀{ps:List D}{b off:Nat}(n:Nat),RPs φ w ps b off->RPs φ w (ps.take n) b off
 |[],_,_,_,_=>by simp[RPs]
 |p::ps,b,off,0,h=>by simp[RPs]
 |p::ps,b,off,n+1,h=>by
  simp only[RPs] at h;simp only[List.take_succ_cons,RPs];exact⟨h.1,lh n h.2⟩
end
end Go.Sk
namespace Go.Sk
open Go.RowKit (Below)
section
variable{P:Program}{env:Env}{st:List AO}{dst:Option Tmp}{ty:TypeId}{pos:String}{after:Array Edge}{guard:Option (Nat×Bool)}
end
end Go.Sk
namespace Go.Sk
open Go.RowKit (Below)
end Go.Sk
namespace Go.Sk
open Go.RowKit (Below)
section
variable{P:Program}{env:Env}{st:List AO}{dst:Option Tmp}{ty:TypeId}{pos:String}{after:Array Edge}{guard:Option (Nat×Bool)}
end
end Go.Sk
namespace Go.Sk
open Go.RowKit (Below)
open Go.MapKept (run_getObj_map run_setObj_map)
structure KeyS(P:Program){κ:Type}[DecidableEq κ](kt:TypeId)(kf:κ->Value):Prop where
 wide:(match P.underlying kt with|some (.array _ _)|some (.struct _)=>true|_=>false)=true
 chk:∀em k w,(Instr.checkKey em 10000 kt (kf k)).run P w= .ok () w
 eq:∀a b w,(Op.equal kt (kf a) (kf b)).run P w= .ok (decide (a=b)) w
 same:∀a,Instr.sameBits 10000 (kf a) (kf a)=true
section
variable{κ α:Type}[DecidableEq κ]{P:Program}{kt:TypeId}{kf:κ->Value}
theorem fj(hK:KeyS P kt kf)(k:κ):∀(L:List (κ×α))(l:List MapEntry)(i:Nat),l.map (·.key)=L.map (λp=>kf p.1)->
  (dv L k=none/\(∀w:World,(Instr.findAsking kt (kf k) l i).run P w= .ok none w)/\∀v,cm L k v=L++ [(k,v)])\/
  ∃j e x,l[j]? =some e/\L[j]? =some (k,x)/\dv L k=some x/\e.key=kf k/\(∀w:World,(Instr.findAsking kt (kf k) l i).run P w= .ok (some (i+j,e.val)) w)/\∀v,cm L k v=L.set j (k,v)
 |[],[],i,_=> .inl ⟨rfl,by simp[Instr.findAsking],λ_=>rfl⟩
 |p::L,e::l,i,h=>by
  simp only[List.map_cons,List.cons.injEq] at h;have hr:=λw=>hK.eq k p.1 w;rw[<-h.1] at hr;by_cases hp:p.1=k;refine .inr ⟨0,e,p.2,rfl,by simp[<-hp],by simp[dv,hp],by rw[h.1,hp],?_,λv=>by simp[cm,hp]⟩;simp[Instr.findAsking,hr,hp];have hp':¬k=p.1:=λe=>hp e.symm;rcases fj hK k L l (i+1) h.2 with⟨h1,h2,h3⟩|⟨j,e',x,h1,h2,h3,h4,h5,h6⟩
  simp_all [dv,Instr.findAsking,cm];exact .inr ⟨j+1,e',x,by simpa using h1,by simpa using h2,by simp[dv,hp,h3],h4,by simp[Instr.findAsking,hr,hp',h5];omega,λv=>by simp[cm,hp,h6]⟩
 |[],_::_,_,h=>by simp at h
 |_::_,[],_,h=>by simp at h
theorem gt(hK:KeyS P kt kf)(k:κ)(w:World):(Instr.keyThatStays (kf k) (kf k)).run P w= .ok (kf k) w:=by simp[Instr.keyThatStays,hK.same k]
end
theorem KeyS.of{P:Program}{κ:Type}[DecidableEq κ]{kt:TypeId}{kf:κ->Value}{ls:κ->List Value}{ks:List LK}(hkf:∀a,kf a= .agg ⟨ls a⟩)(hT:iQ P 100 kt=some ks)(hag:a8 P kt=some true)(hw:(match P.underlying kt with|some (.array _ _)|some (.struct _)=>true|_=>false)=true)
  (hc:∀em k w,(Instr.checkKey em 10000 kt (kf k)).run P w= .ok () w)(hf:∀a,bZ ks (ls a)=true)(he:∀a b,eqL (ls a) (ls b)=decide (a=b))(hs:∀a,Instr.sameBits 10000 (kf a) (kf a)=true):KeyS P kt kf:=
 ⟨hw,hc,λa b w=>by
  rw[hkf a,hkf b,<-he a b];exact((dN (P:=P) w 100).1 kt ks 10000 (ls a) (ls b) hT dC (hf a) (hf b)).1 hag,hs⟩
theorem gT{P:Program}{T:TypeId}{d:TypeDesc}(hu:P.underlying T=some d)(hd:fS d=false){cs:Array Value}{off:Nat}{v:Value}(hc:cs[off]? =some v)(w:World):(part T cs off).run P w= .ok v w:=by simp_all [part,ek,lb]
theorem jK{P:Program}{kt:TypeId}{f1 f2:Field}{k1 k2:IntKind}(hu:P.underlying kt=some (.struct #[f1,f2]))(h1:P.underlying f1.type=some (.int k1))(h2:P.underlying f2.type=some (.int k2))(o1:f1.offset=0)(o2:f2.offset=1)(hT:iQ P 100 kt=some [.int k1, .int k2]):
  KeyS P kt (λx:Int×Int=> .agg ⟨[.int k1 x.1, .int k2 x.2]⟩):=
 KeyS.of (ls:=λx:Int×Int=> [.int k1 x.1, .int k2 x.2]) (λ_=>rfl) hT (lb hu) (by rw[hu])
  (λem k w=>by
   have p1:=gT (cs:=⟨[.int k1 k.1, .int k2 k.2]⟩) (off:=f1.offset) (v:= .int k1 k.1) h1 rfl (by rw[o1];rfl) w;have p2:=gT (cs:=⟨[.int k1 k.1, .int k2 k.2]⟩) (off:=f2.offset) (v:= .int k2 k.2) h2 rfl (by rw[o2];rfl) w;have c1:∀n,(Instr.checkKey em (n+1) f1.type (.int k1 k.1)).run P w= .ok () w:=λn=>by simp[Instr.checkKey,run_underlying h1]
   have c2:∀n,(Instr.checkKey em (n+1) f2.type (.int k2 k.2)).run P w= .ok () w:=λn=>by simp[Instr.checkKey,run_underlying h2]
   suffices H:∀n,(Instr.checkKey em (n+2) kt (.agg ⟨[.int k1 k.1, .int k2 k.2]⟩)).run P w= .ok () w from H 9998;intro n;rw[Instr.checkKey];by_cases n1:f1.name= "_"<;>by_cases n2:f2.name= "_"<;>simp[run_underlying hu,Result.andThen,n1,n2,p1,p2,c1,c2])
  (λa=>by simp[bZ,LK.fits])
  (λa b=>by
   simp only[eqL,kZ,Bool.and_true];by_cases e1:a.1=b.1<;>by_cases e2:a.2=b.2<;>simp[e1,e2,Prod.ext_iff])
  (λa=>by simp[Instr.sameBits])
section
variable{P:Program}{env:Env}{st:List AO}{dst:Option Tmp}{ty:TypeId}{pos:String}{after:Array Edge}{guard:Option (Nat×Bool)}
variable{κ α:Type}[DecidableEq κ]
theorem j8{w:World}{T kt et:TypeId}{kf:κ->Value}{b:Nat}{l:List MapEntry}{clock:Nat}{k:κ}{u:Value}{L:List (κ×α)}(hT:P.underlying T=some (.map kt et))(hK:KeyS P kt kf)(hb:w.heap[b]? =some (.map ⟨l⟩ clock))
  (hl:l.map (·.key)=L.map λp=>kf p.1)(v:α):∃l' clock',(Instr.mapUpdate T (.map (some b)) (kf k) u).run P w= .ok () { w with heap:=w.heap.setIfInBounds b (.map ⟨l'⟩ clock') }/\
   l'.map (·.key)=(cm L k v).map (λp=>kf p.1)/\((cm L k v=L++ [(k,v)]/\l'.map (·.val)=l.map (·.val)++ [u])\/∃j,cm L k v=L.set j (k,v)/\l'.map (·.val)=(l.map (·.val)).set j u)/\(Born l clock->Born l' clock'):=by
 have hfk:=run_findKey_eq (P:=P) w hK.wide (kf k) l;rcases fj hK k L l 0 hl with⟨h1,h2,h3⟩|⟨j,e,x,h1,h2,h3,h4,h5,h6⟩
 rw[h2 w] at hfk;refine⟨l++ [⟨kf k,u,clock⟩],clock+1,?_,by rw[h3 v];simp[hl], .inl ⟨h3 v,sM⟩,λhB=>hB.push _ _⟩;simp[Instr.mapUpdate,run_underlying hT,MapKept.run_getObj_map hb,hK.chk,hfk,MapKept.run_setObj_map _ hb,Result.andThen];rw[h5 w] at hfk;refine⟨l.modify j (λe'=>{ e' with key:=kf k,val:=u }),clock,?_,?_, .inr ⟨j,h6 v,?_⟩,λhB=>hB.modify _ _ _⟩;simp[Instr.mapUpdate,run_underlying hT,MapKept.run_getObj_map hb,hK.chk,hfk,h1,h4,gt hK,MapKept.run_setObj_map _ hb,Result.andThen];rw[h6 v];apply List.ext_getElem?;intro i;have hi:=congrArg (λz=>z[i]?) hl;grind;apply List.ext_getElem?;grind
theorem qp{m φ w a}{ki:Operand}{ka:AV}{vs:List Value}(he:EnvOk m φ w env a)(hk:opv env ki=some ka)(hl:Le ka (.d (.ag (vs.map D.v)))):a.eval ki= .agg ⟨vs⟩:=by have ex:=hl _ _ _ _ (bd he hk);grind [RA,RD,eQ]
theorem lG{T kt et:TypeId}{o:Oper}{x ki v:Operand}{id:Nat}(kf:κ->Value)(g:α->AV)(L:List (κ×α)){k:κ}{u:α}{ka:AV}{vs:List Value}(ho:(o=⟨dst, .insert T x ki v,ty,pos,after,guard⟩)\/(o=⟨dst, .mapUpdate T x ki v,ty,pos,after,guard⟩))(hT:P.underlying T=some (.map kt et))(hK:KeyS P kt kf)
  (hx:opv env x=some (.mp id))(hi:st[id]? =some (mpO kf g L))(hk:opv env ki=some ka)(hl:Le ka (.d (.ag (vs.map D.v))))(hkf:kf k= .agg ⟨vs⟩)(hv:opv env v=some (g u)):
  Does P env st o (.d (.v undef)) (st.set id (mpO kf g (cm L k u))):=λm φ a w hs he=>by
 obtain⟨b,h1,h2⟩:=gp he hx;obtain⟨b',hbb,h0,l,cl,g1,g2,g3,g4⟩:=hs.obj id _ _ hi h1;simp only[Cz.blk.injEq] at hbb;subst hbb;have hkeys:l.map (·.key)=L.map (λp=>kf p.1):=by rw[g2];simp
 obtain⟨l',clock',r1,r2,r3,r4⟩:=j8 (P:=P) (k:=k) (u:=a.eval v) (w:=w) hT hK g1 hkeys u;have hru:=bd he hv;have hvals:RAs m φ w (((cm L k u).map λp=>(kf p.1,g p.2)).map (·.2)) (l'.map (·.val)):=by grind [ba,bp,cf,List.map_set,jd]
 obtain⟨k1,k2⟩:=te (clock':=clock') hs hi h1 (by rw[r2];simp) hvals (r4 g4);refine⟨undef,_,m,φ, .inr ⟨?_,rfl⟩,k1,k2,RAv⟩;have hkv:=(qp he hk hl).trans hkf.symm;rcases ho with rfl|rfl<;>simp[execOp,h2,hkv,r1]
theorem o8{T kt et:TypeId}{x ki:Operand}{id:Nat}(kf:κ->Value)(g:α->AV)(L:List (κ×α)){k:κ}{z:α}{zv:Value}{ka:AV}{vs:List Value}(hT:P.underlying T=some (.map kt et))(hK:KeyS P kt kf)
  (hx:opv env x=some (.mp id))(hi:st[id]? =some (mpO kf g L))(hk:opv env ki=some ka)(hl:Le ka (.d (.ag (vs.map D.v))))(hkf:kf k= .agg ⟨vs⟩)(hz:(P.info? et).bind (·.zero)=some zv)(hgz:g z= .d (.v zv)):
  Yields P env st ⟨dst, .lookup T x ki false,ty,pos,after,guard⟩ (g ((dv L k).getD z)):=λm φ a w hs he=>by
 obtain⟨b,h1,h2⟩:=gp he hx;obtain⟨b',hbb,h0,l,cl,g1,g2,g3,g4⟩:=hs.obj id _ _ hi h1;simp only[Cz.blk.injEq] at hbb;subst hbb;have hkeys:l.map (·.key)=L.map (λp=>kf p.1):=by rw[g2];simp
 have hkv:=(qp he hk hl).trans hkf.symm;have hlt:=bY g1;cases hinf:P.info? et with
 |none=>simp[hinf] at hz
 |some i=>
  simp only[hinf,bnS] at hz;rcases fj hK k L l 0 hkeys with⟨q1,q2,_⟩|⟨j,e,y,q1,q2,q3,q4,q5,_⟩
  refine⟨zv,by rw[q1,Option.getD_none,hgz];exact RAv,λw' hb=>?_⟩;have g1':w'.heap[b]? =some (.map ⟨l⟩ cl):=by rw[hb.block b hlt];exact g1
  have hfk:=run_findKey_eq (P:=P) w' hK.wide (kf k) l;rw[q2 w'] at hfk;simp[execOp,Instr.lookup,h2,hkv,run_underlying hT,MapKept.run_getObj_map g1',hK.chk,hfk,zeroValue,typeInfo,hinf,hz,Result.andThen];have hval:RA m φ w (g y) e.val:=by
   have:(((L.map λp=>(kf p.1,g p.2)).map (·.2)))[j]? =some (g y):=by simp[q2]
   grind [cF]
  refine⟨e.val,by rw[q3,Option.getD_some];exact hval,λw' hb=>?_⟩;have g1':w'.heap[b]? =some (.map ⟨l⟩ cl):=by rw[hb.block b hlt];exact g1
  have hfk:=run_findKey_eq (P:=P) w' hK.wide (kf k) l;rw[q5 w'] at hfk;simp[execOp,Instr.lookup,h2,hkv,run_underlying hT,MapKept.run_getObj_map g1',hK.chk,hfk,Result.andThen]
end
end Go.Sk
namespace Go.Sk
open Go.RowKit (Below)
section
variable{P:Program}{env:Env}{st:List AO}{dst:Option Tmp}{ty:TypeId}{pos:String}{after:Array Edge}{guard:Option (Nat×Bool)}
theorem iV{α β:Type}{R:α->List β}{k:Nat}(hR:∀x,(R x).length=k):∀(l:List α)(i:Nat)(z:α),l[i]? =some z->∃r,(l.flatMap R).drop (i*k)=R z++r
 |[],i,z,h=>by simp at h
 |x::l,0,z,h=>by
  simp_all
 |x::l,i+1,z,h=>by
  obtain⟨r,hr⟩:=iV hR l i z (by simpa using h);refine⟨r,?_⟩;rw[List.flatMap_cons,List.drop_append,hR,Nat.add_mul,Nat.one_mul,Nat.add_sub_cancel,hr,List.drop_eq_nil_of_le (by rw[hR];omega),List.nil_append]
theorem wZ{T n k:Nat}{bb:Bool}{x ix:Operand}{α:Type}{R:α->List D}(tab:List α){kk:IntKind}{i:Int}{z:α}(hR:∀x,(R x).length=k)(hT:dZ P T=some (n,k,bb))(hx:opv env x=some (.d (.pc (tab.flatMap R))))(hi:opv env ix=some (.d (.v (.int kk i))))(hl:tab.length=n)(h:idx tab i=some z):
  Yields P env st ⟨dst, .indexAddr T x ix,ty,pos,after,guard⟩ (.d (.pc (R z))):=λm φ a w hs he=>by
 obtain⟨v,h1,h2⟩:=fd (dst:=dst) (ty:=ty) (pos:=pos) (after:=after) (guard:=guard) hT hx hi (aL h) (by rw[<-hl];exact mW h) m φ a w hs he;refine⟨v,?_,h2⟩;obtain⟨b,off,g1,g2⟩:=h1;refine⟨b,off,g1,?_⟩;obtain⟨r,hr⟩:=iV hR tab i.toNat z (eZ h);rw[hr] at g2;have:=lh k g2;grind
end
end Go.Sk
namespace Go.Sk
open Go.RowKit (Below)
open Go.Sort (Holds putRow grow)
def iv(L:List Int):List Value:=L.map (Value.int .i64)
end Go.Sk
namespace Go.Sk
open Go.RowKit (Below)
section
variable{P:Program}{e:En}{ops:Array Oper}{l:List Oper}{env:Env}{st:List AO}{R:Env->List AO->Prop}{K:Ko}
end
end Go.Sk
namespace Go.Sk
open Go.RowKit (Below)
def AO.lr:AO->Bool| .dead=>false|_=>true
theorem o6{o:AO}(h:o.lr=true):o.live=true\/o= .rsv:=by cases o<;>simp_all [AO.lr,AO.live]
def la:List AO->Bool
 |[]=>true
 |o::l=>o.lr&&la l
theorem mt:∀{l:List AO},la l=true->∀{i:Nat}{o:AO},l[i]? =some o->o.live=true\/o= .rsv
 |[],_,i,o,h=>by simp at h
 |p::l,hl,i,o,h=>by
  simp only[la,Bool.and_eq_true] at hl;cases i with
  |zero=>grind [o6]
  |succ i=>exact mt hl.2 (by simpa using h)
theorem rq{js:List Nat}{m φ w}{st st0:List AO}(hs:SR m φ st w)(hj:js.Nodup)(hwin:iR js st (st0.map (AO.ren js)))(hlt:d3 js.length st0=true)(hlive:la st0=true):
  ∃m0,Win js m m0/\SR m0 φ st0 w/\(∀as0 vs,AV.lts js.length as0=true->RAs m φ w (AV.rens js as0) vs->RAs m0 φ w as0 vs)/\
   ∀st1 m1 φ' w',Ev m0 φ w m1 φ' w'->SR m1 φ' st1 w'->st0.length<=st1.length->d3 js.length (st1.take st0.length)=true->
   ∃m',Ev m φ w m' φ' w'/\SR m' φ' (ct js ((st1.take st0.length).map (AO.ren js)) st) w'/\(∀r v,r.lt js.length=true->RA m1 φ' w' r v->RA m' φ' w' (r.ren js) v):=by
 obtain⟨hlen,hget⟩:=ij hwin;rw[List.length_map] at hlen;let m0:List Cz:=js.map λj=>m.getD j (.blk 0);have hW:Win js m m0:=λi j hij=>by
  have hjl:=(hget i j hij).2;have hjm:j<m.length:=by rw[hs.len];exact hjl
  simp only[m0,List.getElem?_map,hij,Option.map_some,List.getD_eq_getElem?_getD,geG hjm,Option.getD_some]
 have hm0:m0.length=js.length:=by simp[m0]
 have hs0:SR m0 φ st0 w:=by
  refine⟨by rw[hm0,hlen],λi o c h1 h2=>?_,hs.lt,λi j o o' c c' b h1 h2 l1 l2 h3 h4 h5 h6=>?_,hs.gl,λb ⟨i,c,h,h2⟩=>?_⟩;rotate_right;have hi:i<js.length:=by rw[<-hm0];exact(giS.1 h).1
  have h8:=hW i _ (geG hi);rw[h] at h8;exact hs.nb b ⟨_,c,h8.symm,h2⟩;have hi:i<js.length:=by rw[<-hlen];exact(giS.1 h1).1
  have hji:=geG hi;have h7:=(hget i _ hji).1;rw[List.getElem?_map,h1,Option.map_some] at h7;have h8:=hW i _ hji;rw[h2] at h8;exact(OR.ren hW (eK hlt h1)).1 (hs.obj _ _ _ h7 h8.symm);have hi:i<js.length:=by rw[<-hlen];exact(giS.1 h1).1
  have hi':j<js.length:=by rw[<-hlen];exact(giS.1 h2).1
  have hji:=geG hi;have hji':=geG hi';have h7:=(hget i _ hji).1;have h7':=(hget j _ hji').1;rw[List.getElem?_map,h1,Option.map_some] at h7;rw[List.getElem?_map,h2,Option.map_some] at h7';have h8:=hW i _ hji;have h8':=hW j _ hji';rw[h3] at h8;rw[h4] at h8';have:=hs.inj _ _ _ _ _ _ b h7 h7' (by rw[cv];exact l1) (by rw[cv];exact l2) h8.symm h8'.symm h5 h6;exact(List.getElem?_inj hi hj).1 (by rw[hji,hji',this])
 refine⟨m0,hW,hs0,λas0 vs hla ha=>(RAs.ren hW as0 vs hla).1 ha,λst1 m1 φ' w' hev hsr hle hlt1=>?_⟩;have hm1:js.length<=m1.length:=by rw[hsr.len,<-hlen];exact hle
 let m':=dg js (m1.take js.length) m;let st':=ct js ((st1.take st0.length).map (AO.ren js)) st;have hjm:∀j∈js,j<m.length:=λj hj'=>by
  obtain⟨a,ha'⟩:=List.getElem?_of_mem hj';rw[hs.len];exact(hget a j ha').2
 have hjs:∀j∈js,j<st.length:=λj hj'=>by rw[<-hs.len];exact hjm j hj'
 have gm:=jp (js:=js) (os:=m1.take js.length) (st:=m) hj (by simp[hm1]) hjm;have gs:=ia (js:=js) (os:=(st1.take st0.length).map (AO.ren js)) (st:=st) hj (by simp[hlen];omega) hjs;have hW':Win js m' m1:=λi j hij=>by
  have hi:i<js.length:=(giS.1 hij).1;show _=(dg js (m1.take js.length) m)[j]?;rw[(gm j).1 i hij,List.getElem?_take,if_pos hi]
 have inm0:∀b,In m0 b->In m b:=by
  rintro b ⟨i,c,h1,h2⟩;have hi:i<js.length:=by rw[<-hm0];exact(giS.1 h1).1
  have h8:=hW i _ (geG hi);rw[h1] at h8;exact⟨_,c,h8.symm,h2⟩
 have hpre:Pre m m':=λi c hi=>by
  by_cases hij:i∈js;obtain⟨a,ha'⟩:=List.getElem?_of_mem hij;have h8:=hW a _ ha';rw[hi] at h8;obtain⟨c',h9,h10⟩:=hev.pre a c h8;refine⟨c',?_,h10⟩;have:=hW' a _ ha';rw[<-this];exact h9;exact⟨c,by show(dg js (m1.take js.length) m)[i]? =_;rw[(gm i).2 hij];exact hi,Cz.le_refl c⟩
 have hev':Ev m φ w m' φ' w':=by
  refine⟨hpre,?_,hev.os,hev.tape,hev.output,hev.size,λb hb hn=>hev.keep b hb (λh=>hn (inm0 b h)),hev.fz⟩;rintro b ⟨i,c,h1,h2⟩;by_cases hij:i∈js;obtain⟨a,ha'⟩:=List.getElem?_of_mem hij;have:=hW' a _ ha';rw[h1] at this;rcases hev.new b ⟨a,c,this,h2⟩ with h|h
  exact .inl (inm0 b h);exact .inr h;have h1':(dg js (m1.take js.length) m)[i]? =some c:=h1;rw[(gm i).2 hij] at h1';exact .inl ⟨i,c,h1',h2⟩
 have out:∀(i:Nat)(o:AO)(c:Cz)(b:Nat),i∉js->st[i]? =some o->o.live=true->m[i]? =some c->c.has b->¬In m0 b:=by
  rintro i o c b hij h1 hlv h2 h3 ⟨a,c',h4,h5⟩;have hi:a<js.length:=by rw[<-hm0];exact(giS.1 h4).1
  have hja:=geG hi;have h8:=hW a _ hja;rw[h4] at h8;have ha0:a<st0.length:=by rw[hlen];exact hi
  have h9:=(hget a _ hja).1;rw[List.getElem?_map,geG ha0,Option.map_some] at h9;rcases mt hlive (geG ha0) with hl9|hl9
  have:=hs.inj _ _ _ _ _ _ b h1 h9 hlv (by rw[cv];exact hl9) h2 h8.symm h3 h5;exact hij (this▸List.getElem_mem hi);rw[hl9] at h9;have h10:c'= .non:=hs.obj _ _ _ h9 h8.symm;subst h10;exact h5
 have hst:∀(i:Nat)(o:AO),i∉js->st'[i]? =some o->st[i]? =some o:=λi o hij h=>by
  have:(ct js ((st1.take st0.length).map (AO.ren js)) st)[i]? =some o:=h;rwa [(gs i).2 hij] at this
 have hmm:∀(i:Nat)(c:Cz),i∉js->m'[i]? =some c->m[i]? =some c:=λi c hij h=>by
  have:(dg js (m1.take js.length) m)[i]? =some c:=h;rwa [(gm i).2 hij] at this
 have hst1:∀(a i:Nat)(o:AO),js[a]? =some i->st'[i]? =some o->∃o1,st1[a]? =some o1/\o=o1.ren js/\o1.lt js.length=true:=λa i o ha' h=>by
  have:(ct js ((st1.take st0.length).map (AO.ren js)) st)[i]? =some o:=h;rw[(gs i).1 a ha',List.getElem?_map] at this;have hal:a<st0.length:=by rw[hlen];exact(giS.1 ha').1
  cases ht:(st1.take st0.length)[a]? with
  |none=>rw[ht] at this;simp at this
  |some o1=>rw[ht,Option.map_some,ay] at this;exact⟨o1,(bQ ht).2,this.symm,eK hlt1 ht⟩
 refine⟨m',hev',⟨?_,?_,hsr.lt,?_,hsr.gl,?_⟩,λr v hrl hra=>(RA.ren hW' r v hrl).2 hra⟩;rotate_right;rintro b ⟨i,c,h1,h2⟩;by_cases hij:i∈js;obtain⟨a,ha'⟩:=List.getElem?_of_mem hij;have:=hW' a _ ha';rw[h1] at this;exact hsr.nb b ⟨a,c,this,h2⟩;have h1':(dg js (m1.take js.length) m)[i]? =some c:=h1;rw[(gm i).2 hij] at h1';exact Nat.lt_of_lt_of_le (hs.nb b ⟨i,c,h1',h2⟩) hev.size;show(dg _ _ _).length=(ct _ _ _).length;rw[fH,fg];exact hs.len;intro i o c h1 h2;by_cases hij:i∈js;obtain⟨a,ha'⟩:=List.getElem?_of_mem hij;obtain⟨o1,h3,rfl,h4⟩:=hst1 a i o ha' h1;have h5:=hW' a i ha';rw[h2] at h5;exact(OR.ren hW' h4).2 (hsr.obj a o1 c h3 h5);have h1':=hst i o hij h1;have h2':=hmm i c hij h2;have hor:=hs.obj i o c h1' h2';cases hlv:o.live with
 |false=>cases o<;>first|trivial|exact h|(simp[AO.live] at hlv;done)
 |true=>exact hor.congr hpre hev.fz (λb hb=>hev.keep b (hor.block_lt hlv hb) (out i o c b hij h1' hlv h2' hb))
 intro i j o o' c c' b h1 h2 l1 l2 h3 h4 h5 h6;have mixed:∀(i j:Nat)(o o':AO)(c c':Cz),i∉js->j∈js->st'[i]? =some o->m'[i]? =some c->o.live=true->m'[j]? =some c'->c.has b->c'.has b->False:=by
  intro i j o o' c c' hi hj' g1 g2 g3 g4 g5 g6;obtain⟨a,ha'⟩:=List.getElem?_of_mem hj';have g1':=hst i o hi g1;have g2':=hmm i c hi g2;have h7:=hW' a _ ha';rw[g4] at h7;rcases hev.new b ⟨a,c',h7,g6⟩ with h|h
  exact out i o c b hi g1' g3 g2' g5 h;have:=(hs.obj i o c g1' g2').block_lt g3 g5;omega
 by_cases hi:i∈js;by_cases hj':j∈js;obtain⟨a,ha'⟩:=List.getElem?_of_mem hi;obtain⟨a2,ha2⟩:=List.getElem?_of_mem hj';obtain⟨o1,q1,rfl,_⟩:=hst1 a i o ha' h1;obtain⟨o2,q2,rfl,_⟩:=hst1 a2 j o' ha2 h2;have h7:=hW' a _ ha';have h8:=hW' a2 _ ha2;rw[h3] at h7;rw[h4] at h8;have:=hsr.inj a a2 o1 o2 c c' b q1 q2 (by rw[<-cv];exact l1) (by rw[<-cv];exact l2) h7 h8 h5 h6;subst this;rw[ha'] at ha2;exact inS ha2;exact(mixed j i o' o c' c hj' hi h2 h4 l2 h3 h6 h5).elim;by_cases hj':j∈js;exact(mixed i j o o' c c' hi hj' h1 h3 l1 h4 h5 h6).elim;exact hs.inj i j o o' c c' b (hst i o hi h1) (hst j o' hj' h2) l1 l2 (hmm i c hi h3) (hmm j c' hj' h4) h5 h6
theorem sE{js:List Nat}{m φ w}{st st0:List AO}(hs:SR m φ st w)(hj:js.Nodup)(hwin:iR js st (st0.map (AO.ren js)))(hlt:d3 js.length st0=true)(hlive:la st0=true):
  ∃m0,SR m0 φ st0 w/\(∀as0 vs,AV.lts js.length as0=true->RAs m φ w (AV.rens js as0) vs->RAs m0 φ w as0 vs)/\
   ∀st1 m1 φ' w',Ev m0 φ w m1 φ' w'->SR m1 φ' st1 w'->st0.length<=st1.length->d3 js.length (st1.take st0.length)=true->
   ∃m',Ev m φ w m' φ' w'/\SR m' φ' (ct js ((st1.take st0.length).map (AO.ren js)) st) w'/\(∀r v,r.lt js.length=true->RA m1 φ' w' r v->RA m' φ' w' (r.ren js) v):=by grind [rq]
def bH(k:Nat)(S:AV->List AO->Prop)(r:AV)(st1:List AO):Prop:=k<=st1.length/\S r (st1.take k)
section
variable{P:Program}{e:En}{ops:Array Oper}{l rest:List Oper}{o:Oper}{env:Env}{st:List AO}{R:Env->List AO->Prop}{RP:List PanicEntry->Env->List AO->Prop}{d:Nat}{k:Ko}
theorem aw{f:FuncId}{c:Call}{x:Operand}{first caps asz as0:List AV}{st0 st0':List AO}{S:AV->List AO->Prop}(js:List Nat)(hop:o.op= .call c)(hx:c.callee= .value x)
  (hf:opv env x=some (.fn (.func f) first caps))(has:cw env c.args.toList=some asz)(hc:Ctr P f as0 st0 (bH st0.length S))(hl:Les (first++asz++caps) (AV.rens js as0))
  (hla:AV.lts js.length as0=true)(hj:js.Nodup)(hren0:st0.map (AO.ren js)=st0')(hwin:iR js st st0')(hlt:d3 js.length st0=true)(hlive:la st0=true)
  (hw:Wt ops env o true)(ho:o.dst=some d)(hd:Nat.ble (d+1) e.n=true)
  (h:∀r new,S r new->∃r' new',r.ren js=r'/\new.map (AO.ren js)=new'/\r.lt js.length=true/\d3 js.length new=true/\WL P e ops rest ((d,r')::env) (ct js new' st) R):WL P e ops (o::rest) env st R:=λm φ a w hi=>by
 obtain⟨vs,h1,h2⟩:=gk (P:=P) hi.env hop hx hf has hc.1;unfold eT;rw[if_pos (hw _ _ _ _ hi.env)];refine .inl ?_;simp only[Oper.wp,h2,Oper.upon,ho];obtain⟨m0,g1,g2,g3⟩:=sE hi.sr hj (by rw[hren0];exact hwin) hlt hlive;refine(hc.2 m0 φ w vs g1 (g2 _ _ hla (hl.ras h1))).mono ?_;rintro en w' ⟨v,r,st1,m1,φ',rfl,⟨q1,q2⟩,hev,hsr,hra⟩;obtain⟨_,_,rfl,rfl,k1,k2,k3⟩:=h r _ q2;obtain⟨m',p1,p2,p3⟩:=g3 st1 m1 φ' w' hev hsr q1 k2;exact k3 m' φ' _ w' (hi.ev_put p1 p2 (nbT hd) (p3 r v k1 hra))
end
section
variable{P:Program}{e:En}{fn:Func}{env:Env}{st:List AO}{k:Nat}
end
section
variable{P:Program}{e:En}{fn:Func}{env:Env}{st:List AO}{k:Nat}
theorem nU:∀(k:Nat)(st new:List AO),SLe (st.take k) new->SLe st (new++st.drop k)
 |0,_st,[],_=>SLe.refl _
 |0,_st,_::_,h=>h.elim
 |_k+1,[],[],_=>trivial
 |_k+1,[],_::_,h=>h.elim
 |_k+1,_b::_st,[],h=>h.elim
 |k+1,_b::st,_a::new,h=>⟨h.1,nU k st new h.2⟩
theorem ax{S:AV->List AO->Prop}{r r0:AV}{new:List AO}(hr:Res P fn env st r)(hl:Le r r0)(hk:Nat.ble k st.length=true)(hs:SLe (st.take k) new)(hS:S r0 new)(hds:e.nd=true:=by rfl):WE P e .ret (.fin fn (bH k S)) env st:=by
 have hk:=nbT hk;have hnl:new.length=k:=by rw[hs.length,List.length_take];omega
 refine jP hr hl (nU k st new hs) ⟨?_,?_⟩ hds;grind;grind
end
inductive Rs(α:Type) where
 |ok(a:α)
 |bad(e:Int)
def Rs.cs{α β:Type}:Rs α->(Int->β)->(α->β)->β
 | .bad e,f,_=>f e
 | .ok a,_,g=>g a
section
variable{P:Program}{fn:Func}{env:Env}{st st':List AO}{f:FuncId}{caps:List AV}
end
def Ko.plain:Ko->Bool
 | .fin _ _=>true
 | .seq _ k=>k.plain
 |_=>false
end Go.Sk
namespace Go.Sk
open Go.RowKit (Below)
section
variable{P:Program}{e:En}{l:List Oper}{rs:List AV}{base:Env}{sts:Nat->List AO}{es:List Nat}
end
end Go.Sk
namespace Go.Sk
open Go.RowKit (Below)
section
variable{P:Program}{e:En}{ops:Array Oper}{l rest:List Oper}{K:Ko}{env:Env}{st:List AO}{R:Env->List AO->Prop}{dst:Option Tmp}{ty:TypeId}{pos:String}{after:Array Edge}{guard:Option (Nat×Bool)}
theorem sX{m φ a w}{x:Operand}{id ver off T k:Nat}{es:List (List AV)}(hs:SR m φ st w)(he:EnvOk m φ w env a)(hx:opv env x=some (.pe id ver off))(hi:st[id]? =some (.os T k ver es)):∃p,a.eval x= .pointer (some p):=by have h:=bd he hx;obtain⟨v0,y0,h1,_,h3⟩:=h;obtain⟨y,xs,h4,_⟩:=hs.obj _ _ _ hi h1;grind
end
end Go.Sk
namespace Go.Sk
open Go.RowKit (Below)
theorem iU{k:Nat}:∀{es:List (List AV)}{i:Nat}{r:List AV},(∀e∈es,e.length=k)->es[i]? =some r->∃l1 l2,es.flatten=l1++r++l2/\l1.length=i*k/\∀r',(es.set i r').flatten=l1++r'++l2
 |[],i,r,_,h=>by simp at h
 |e::es,0,r,_,h=>by
  simp only[List.getElem?_cons_zero,ay] at h;subst h;exact⟨[],es.flatten,sM,sM,λr'=>sM⟩
 |e::es,i+1,r,hk,h=>by
  obtain⟨l1,l2,h1,h2,h3⟩:=iU (λe he=>hk e (List.mem_cons_of_mem _ he)) h;grind
section
variable{P:Program}{e:En}{ops:Array Oper}{l:List Oper}{env:Env}{st:List AO}{R:Env->List AO->Prop}{K:Ko}
theorem oz(al id off:Nat){Ta ka va T k ver:Nat}{ds:List (List D)}{ea es es':List (List AV)}(ha:st[al]? =some (.os Ta ka va ea))(hea:ea=ds.map λe=>e.map AV.d)(hs:st[id]? =some (.os T k ver es))(hne:Nat.beq id al=false)
  (hc:es.flatten[off]? =some (.os al va))(hes:es'.flatten=es.flatten.set off (.d (.sl ds)))(hel:es'.length=es.length)(hek:∀e∈es',e.length=k):
  Gh e env st env ((st.set al .dead).set id (.os T k ver es')):=λm φ a w hi=>by
 subst hea;have hne':al≠id:=by grind
 obtain⟨c,hcm⟩:∃c,m[al]? =some c:=by
  have:al<m.length:=by rw[hi.sr.len];exact(giS.1 ha).1
  exact⟨_,geG this⟩
 obtain⟨y,xs,rfl,_⟩:=hi.sr.obj al _ _ ha hcm;obtain⟨φ',f1,f2,f3⟩:=jx hi.sr ha hcm;have h3:=hi.go f1 f2;have hs2:(st.set al AO.dead)[id]? =some (.os T k ver es):=by grind
 refine⟨m,φ',h3.sr.alter hs2 rfl ?_,h3.ev,h3.env,h3.sz,h3.df⟩;rintro c hc2 ⟨y2,vs,rfl,q2,q3,q4,q5⟩;obtain⟨v',p1,p2⟩:=cF q3 hc;obtain⟨v0,y0,k1,k2,k3⟩:=p2;rw[hcm] at k1;obtain⟨rfl,rfl⟩:=k1;have:=k3 rfl;subst this;exact⟨y2,vs,rfl,by rw[hel];exact q2,by rw[hes];exact lm q3 p1 (by simpa[RA] using f3),hek,q5⟩
theorem gu{α:Type}{f:α->List AV}{L:List α}{i:Int}{x:α}(h:idx L i=some x):(L.map f)[i.toNat]? =some (f x):=by rw[List.getElem?_map,eZ h];rfl
abbrev eN{α:Type}(R:α->List D)(L:List α)(i:Int)(x:α)(fo al va:Nat):List (List AV):=List.set (L.map (bg R)) (Int.toNat i) (List.set (bg R x) fo (.os al va))
theorem rH{α:Type}{R:α->List D}{L:List α}{i:Int}{x:α}{fo al va k:Nat}(hR:∀x,(R x).length=k):∀e∈eN R L i x fo al va,e.length=k:=by grind
theorem l8{α:Type}{R:α->List D}{L:List α}{i:Int}{x:α}{fo al va k:Nat}(hR:∀x,(R x).length=k)(hi:idx L i=some x)(hf:Nat.blt fo k=true):(eN R L i x fo al va).flatten[i.toNat*k+fo]? =some (.os al va):=by
 have hf':fo<k:=by simp_all
 obtain⟨l1,l2,h1,h2,h3⟩:=iU (k:=k) (es:=L.map (bg R)) (λe he=>by obtain⟨z,_,rfl⟩:=List.mem_map.1 he;rw[bg,List.length_map,hR]) (gu hi);grind
theorem co{α:Type}{Re:α->List D}{L:List α}{i:Int}{x:α}(x':α)(al id fo:Nat){Ta ka va T k ver:Nat}{ds:List (List D)}{ea:List (List AV)}(ha:st[al]? =some (.os Ta ka va ea))(hea:ea=ds.map λe=>e.map AV.d)(hs:st[id]? =some (.os T k ver (eN Re L i x fo al va)))(hne:Nat.beq id al=false)
  (hR:∀x,(Re x).length=k)(hi:idx L i=some x)(hf:Nat.blt fo k=true)(hx:bg Re x'=List.set (bg Re x) fo (.d (.sl ds))):
  Gh e env st env ((st.set al .dead).set id (.os T k ver ((List.set L i.toNat x').map (bg Re)))):=by
 have hf':fo<k:=by simp_all
 refine oz al id (i.toNat*k+fo) ha hea hs hne (l8 hR hi hf) ?_ sM (λe he=>by obtain⟨z,_,rfl⟩:=List.mem_map.1 he;rw[bg,List.length_map,hR]);obtain⟨l1,l2,h1,h2,h3⟩:=iU (k:=k) (es:=L.map (bg Re)) (λe he=>by obtain⟨z,_,rfl⟩:=List.mem_map.1 he;rw[bg,List.length_map,hR]) (gu hi);have hxl:(bg Re x).length=k:=by grind
 rw[List.map_set,h3,eN,h3,hx,List.set_append_left _ _ (by rw[List.length_append,List.length_set];omega),List.set_append_right _ _ oM,h2,show i.toNat*k+fo - i.toNat*k=fo from by omega,List.set_set]
end
section
variable{P:Program}{env:Env}{st:List AO}{dst:Option Tmp}{ty:TypeId}{pos:String}{after:Array Edge}{guard:Option (Nat×Bool)}
theorem cC{α:Type}{Re:α->List D}{L:List α}{i:Int}{x:α}{T:TypeId}{px y:Operand}{id ver off fo T' k al va Ta ka:Nat}{ea:List (List AV)}(hx:opv env px=some (.pe id ver off))(hoff:off=i.toNat*k+fo)(hs:st[id]? =some (.os T' k ver (L.map (bg Re))))(hy:opv env y=some (.os al va))(ha:st[al]? =some (.os Ta ka va ea))
  (hn:bt P T=some 1)(hR:∀x,(Re x).length=k)(hi:idx L i=some x)(hf:Nat.blt fo k=true):
  Does P env st ⟨dst, .store T px y,ty,pos,after,guard⟩ (.d (.v undef)) (st.set id (.os T' k ver (eN Re L i x fo al va))):=by
 subst hoff;have hf':fo<k:=by simp_all
 obtain⟨l1,l2,h1,h2,h3⟩:=iU (k:=k) (es:=L.map (bg Re)) (λe he=>by obtain⟨z,_,rfl⟩:=List.mem_map.1 he;rw[bg,List.length_map,hR]) (gu hi);have hxl:(bg Re x).length=k:=by grind
 refine oI hx hs hy (dp ha) hn (by rw[h1];simp only[List.length_append];omega) ?_ sM (rH hR);rw[eN,h3,h1,List.set_eq_take_append_cons_drop,if_pos oM];have e1:(l1++bg Re x++l2).take (i.toNat*k+fo)=l1++(bg Re x).take fo:=by rw[List.append_assoc,List.take_append,List.take_of_length_le oM,h2,show i.toNat*k+fo - i.toNat*k=fo from by omega,List.take_append_of_le_length oM]
 have e2:(l1++bg Re x++l2).drop (i.toNat*k+fo+1)=(bg Re x).drop (fo+1)++l2:=by rw[List.append_assoc,List.drop_append,h2,List.drop_eq_nil_of_le oM,List.nil_append,show i.toNat*k+fo+1 - i.toNat*k=fo+1 from by omega,List.drop_append_of_le_length oM]
 rw[e1,e2];simp
theorem bB{α:Type}{Re:α->List D}{L:List α}{i:Int}{x:α}{T:TypeId}{px:Operand}{id ver off fo T' k al va:Nat}(hx:opv env px=some (.pe id ver off))(hoff:off=i.toNat*k+fo)(hs:st[id]? =some (.os T' k ver (eN Re L i x fo al va)))(hT:a8 P T=some false)(hR:∀x,(Re x).length=k)(hi:idx L i=some x)(hf:Nat.blt fo k=true):
  Yields P env st ⟨dst, .load T px,ty,pos,after,guard⟩ (.os al va):=by
 subst hoff;exact aH hx hs hT (l8 hR hi hf)
theorem aa{x:Operand}{id ver off Te k:Nat}{es:List (List AV)}(hx:opv env x=some (.pe id ver off))(hi:st[id]? =some (.os Te k ver es)):Yields P env st ⟨dst, .nilCheck x,ty,pos,after,guard⟩ (.pe id ver off):=λm φ a w hs he=>by
 obtain⟨p,h2⟩:=sX hs he hx hi;refine⟨_,bd he hx,λw' _=>?_⟩;simp[execOp,h2]
end
end Go.Sk
namespace Go.Sk
open Go.RowKit (Below)
section
variable{P:Program}{e:En}{ops:Array Oper}{l rest:List Oper}{K:Ko}{env:Env}{st:List AO}{R:Env->List AO->Prop}{dst:Option Tmp}{ty:TypeId}{pos:String}{after:Array Edge}{guard:Option (Nat×Bool)}
end
end Go.Sk
namespace Go.Sk
open Go.RowKit (Below)
section
variable{P:Program}{env:Env}{st:List AO}{dst:Option Tmp}{ty:TypeId}{pos:String}{after:Array Edge}{guard:Option (Nat×Bool)}
end
section
variable{P:Program}{fn:Func}{env:Env}{st st':List AO}{f:FuncId}{caps:List AV}{k:Nat}
end
end Go.Sk
namespace Go.Sk
open Go.RowKit (Below)
section
variable{P:Program}{e:En}{ops:Array Oper}{rest:List Oper}{env:Env}{st:List AO}{R:Env->List AO->Prop}{ty:TypeId}{pos:String}{after:Array Edge}{guard:Option (Nat×Bool)}
end
end Go.Sk
namespace Go.Sk
open Go.RowKit (Below)
def Cz.rv(t:Nat):Cz->Cz
 | .tok _ y=> .tok t y
 | .fam _ ys=> .fam t ys
 |c=>c
mutual
def AV.rv(cur T:Nat->Nat):AV->AV
 | .d x=> .d x
 | .pt i o=> .pt i o
 | .os i v=>bif Nat.beq v (cur i) then .os i (T i) else .u
 | .osf i j v=>bif Nat.beq v (cur i) then .osf i j (T i) else .u
 | .tu l=> .tu (AV.rvs cur T l)
 |_=> .u
def AV.rvs(cur T:Nat->Nat):List AV->List AV
 |[]=> []
 |x::l=>AV.rv cur T x::AV.rvs cur T l
end
def AO.rv(cur T:Nat->Nat)(i:Nat):AO->AO
 | .row t cs=> .row t (cs.map (AV.rv cur T))
 | .os t k _ es=> .os t k (T i) (es.map λe=>e.map (AV.rv cur T))
 | .fam t k _ ess=> .fam t k (T i) (ess.map λes=>es.map λe=>e.map (AV.rv cur T))
 | .rsv=> .rsv
 |_=> .dead
section
variable{m m3:List Cz}{φ:Nat->Nat}{w:World}{cur T:Nat->Nat}
end
end Go.Sk
namespace Go.Sk
open Go.RowKit (Below)
section
variable{P:Program}{env:Env}{st:List AO}{dst:Option Tmp}{ty:TypeId}{pos:String}{after:Array Edge}{guard:Option (Nat×Bool)}
end
end Go.Sk
namespace Go.Sk
abbrev AV.n(x:Int):AV:= .d (D.i .i64 x)
abbrev AV.l{α:Type}(E:α->List D)(L:List α):AV:= .d (.sl (L.map E))
theorem q{α:Sort _}{a:α}:a=a:=rfl
abbrev Zt:True:=trivial
abbrev Zs:= @Les.refl
theorem Zp{T:Nat}{l:List AV}:OLe (.row T l) (.row T l):=⟨rfl,Les.refl _⟩
theorem Zf{α β γ δ:Type}{a:α}{b:β}{c:γ}{d:δ}:a=a/\b=b/\c=c/\d=d:=⟨rfl,rfl,rfl,rfl⟩
abbrev Zw:= @Wt.none
theorem Oi{α:Type}{a b:α}(h:some a=some b):a=b:=inS h
abbrev Zd:= @fw
abbrev eM{α:Type}(E:α->List D)(L:List α):List (List AV):=L.map (bg E)
abbrev Zl{a:AV}:Le a a:=Le.refl a
abbrev Zn:= @WL.ns
abbrev Zq:= @WL.qn
abbrev Zy:= @WL.qy
theorem Sx{env' env:Env}{t:Nat}{x:AV}(h:env.get t=some x)(hs:Sub env' env):Sub ((t,x)::env') env:=Sub.cons h (Le.refl _) hs
theorem Ro{js:List Nat}{T k v:Nat}{α:Type}{E:α->List D}{L:List α}{l l':List AO}(h:l=l'):AO.ren js (.os T k v (L.map (bg E)))::l= .os T k v (L.map (bg E))::l':=qS (pu _ _ _ _ _ _) h
end Go.Sk
namespace Go.Sk
inductive NT(α:Type) where
 |lf
 |nd(k:Nat)(v:α)(l r:NT α)
def NT.get{α:Type}:NT α->Nat->Option α
 | .lf,_=>none
 | .nd k v l r,i=>bif Nat.beq i k then some v else bif Nat.blt i k then l.get i else r.get i
def NT.chk{α:Type}(f:Nat->Option α)(eq:α->α->Bool):NT α->Bool
 | .lf=>true
 | .nd k v l r=>(match f k with|some u=>eq u v|none=>false)&&(l.chk f eq&&r.chk f eq)
theorem eb{α:Type}{f:Nat->Option α}{eq:α->α->Bool}(he:∀a b,eq a b=true->a=b):∀{t:NT α},t.chk f eq=true->∀{i:Nat}{v:α},t.get i=some v->f i=some v
 | .lf,_,i,v,h=>by cases h
 | .nd k u l r,hc,i,v,h=>by
  simp only[NT.chk,Bool.and_eq_true] at hc;unfold NT.get at h;cases hb:Nat.beq i k with
  |true=>grind [nbE]
  |false=>
   rw[hb] at h;cases hl:Nat.blt i k with
   |true=>rw[hl] at h;exact eb he hc.2.1 h
   |false=>rw[hl] at h;exact eb he hc.2.2 h
structure Ty where
 ag:NT Bool
 sz:NT Nat
 fo:NT (Nat×Nat×Bool)
 un:NT IntKind
def unK(P:Program)(T:Nat):Option IntKind:=match P.underlying T with
 |some (.int k)=>some k
 |_=>none
def foEq(a b:Nat×Nat×Bool):Bool:=Nat.beq a.1 b.1&&(Nat.beq a.2.1 b.2.1&&(a.2.2==b.2.2))
def Ty.ok(P:Program)(t:Ty):Bool:=
 t.ag.chk (a8 P) (·==·)&&(t.sz.chk (bt P) Nat.beq&&(t.fo.chk (λi=>aF P (i / 64) (i%64)) foEq&&t.un.chk (unK P) (λa b=>decide (a=b))))
def Ty.fo'(t:Ty)(S i:Nat):Option (Nat×Nat×Bool):=bif Nat.blt i 64 then t.fo.get (S*64+i) else none
class Tys(P:Program) where
 t:Ty
 h:t.ok P=true
section
variable{P:Program}{t:Ty}(ht:t.ok P=true)
include ht
theorem jb{T:Nat}{b:Bool}(h:t.ag.get T=some b):a8 P T=some b:=by simp only[Ty.ok,Bool.and_eq_true] at ht;exact eb (λa b h=>by simpa using h) ht.1 h
theorem Ty.sz_ok{T:Nat}{b:Nat}(h:t.sz.get T=some b):bt P T=some b:=by simp only[Ty.ok,Bool.and_eq_true] at ht;exact eb (λa b h=>nbE h) ht.2.1 h
theorem lg{S i:Nat}{b:Nat×Nat×Bool}(h:t.fo' S i=some b):aF P S i=some b:=by
 simp only[Ty.ok,Bool.and_eq_true] at ht;unfold Ty.fo' at h;cases hb:Nat.blt i 64 with
 |false=>simp_all
 |true=>
  rw[hb] at h;have hlt:i<64:=by simp_all
  have:=eb (λa b h=>by
   simp only[foEq,Bool.and_eq_true] at h;obtain⟨h1,h2,h3⟩:=h;obtain⟨a1,a2,a3⟩:=a;simp only at h1 h2 h3;rw[nbE h1,nbE h2,eq_of_beq h3]) ht.2.2.1 h
  grind
theorem oT{T:Nat}{k:IntKind}(h:t.un.get T=some k):P.underlying T=some (.int k):=by simp only[Ty.ok,Bool.and_eq_true] at ht;have:=eb (λa b h=>of_decide_eq_true h) ht.2.2.2 h;grind [unK]
end
def wI(k:IntKind)(p q:Int):BinOp->Option AV
 | .add=>some (.d (.v (.int k (k.wrap (p+q)))))
 | .sub=>some (.d (.v (.int k (k.wrap (p - q)))))
 | .mul=>some (.d (.v (.int k (k.wrap (p*q)))))
 | .lss=>some (.d (.v (.bool (decide (p<q)))))
 | .leq=>some (.d (.v (.bool (decide (p<=q)))))
 | .gtr=>some (.d (.v (.bool (decide (p>q)))))
 | .geq=>some (.d (.v (.bool (decide (p>=q)))))
 | .eql=>some (.d (.v (.bool (decide (p=q)))))
 | .neq=>some (.d (.v (.bool (!decide (p=q)))))
 |_=>none
def wE(p q:ByteArray):BinOp->Option AV
 | .eql=>some (.d (.v (.bool (p.toList==q.toList))))
 | .neq=>some (.d (.v (.bool (!(p.toList==q.toList)))))
 |_=>none
def binS(b:BinOp):AV->AV->Option AV
 | .d (.v (.int k p)), .d (.v (.int k' q))=>bif decide (k=k') then wI k p q b else none
 | .d (.v (.string p)), .d (.v (.string q))=>wE p q b
 |_,_=>none
def wH(t:Ty)(st:List AO)(T:Nat):AV->Option AV
 | .pt id off=>match t.ag.get T with
  |some false=>match st[id]? with
   |some (.row _ cs)=>cs[off]?
   |_=>none
  |some true=>match st[id]?,t.sz.get T with
   |some (.row _ cs),some n=>bif Nat.ble (off+n) cs.length then some (.ag ((cs.drop off).take n)) else none
   |_,_=>none
  |none=>none
 | .d (.pc ps)=>match t.ag.get T with
  |some false=>match ps[0]? with
   |some p=>some (.d p)
   |none=>none
  |some true=>match t.sz.get T with
   |some n=>bif Nat.ble n ps.length then some (.d (.ag (ps.take n))) else none
   |none=>none
  |none=>none
 |_=>none
def faS(fo:Nat):AV->Option AV
 | .pt id off=>some (.pt id (off+fo))
 | .d (.pc ps)=>some (.d (.pc (ps.drop fo)))
 |_=>none
def fldS(f:Nat×Nat×Bool):AV->Option AV
 | .d (.ag ps)=>match f with
  |(fo,_,false)=>match ps[fo]? with
   |some p=>some (.d p)
   |none=>none
  |(fo,n,true)=>some (.d (.ag ((ps.drop fo).take n)))
 | .ag ps=>match f with
  |(fo,_,false)=>ps[fo]?
  |(fo,n,true)=>some (.ag ((ps.drop fo).take n))
 |_=>none
def nilS:AV->Option AV
 | .pt id off=>some (.pt id off)
 | .d (.pc ps)=>some (.d (.pc ps))
 | .fn (.func f) a b=>some (.fn (.func f) a b)
 |_=>none
def extS(i:Nat):AV->Option AV
 | .tu l=>l[i]?
 | .d (.tu l)=>match l[i]? with
  |some p=>some (.d p)
  |none=>none
 |_=>none
def notS:AV->Option AV
 | .d (.v (.bool b))=>some (.d (.v (.bool (!b))))
 |_=>none
def negS:AV->Option AV
 | .d (.v (.int k p))=>some (.d (.v (.int k (k.wrap (0 - p)))))
 |_=>none
def wQ(k:IntKind):AV->Option AV
 | .d (.v (.int _ p))=>some (.d (.v (.int k (k.wrap p))))
 |_=>none
def qX:AV->Option Bool
 | .d (.v (.bool b))=>some b
 |_=>none
theorem iZ{x:AV}{b:Bool}(h:qX x=some b):x= .d (.v (.bool b)):=by unfold qX at h;split at h;rw[inS h];cases h
def iG(t:Ty)(env:Env)(st:List AO):Op->Option AV
 | .move x=>opv env x
 | .assign x=>opv env x
 | .pick c x y=>match(opv env c).bind qX with
  |some true=>opv env x
  |some false=>opv env y
  |none=>none
 | .load T x=>(opv env x).bind (wH t st T)
 | .fieldAddr S x i=>match t.fo' S i with
  |some (fo,_+1,_)=>(opv env x).bind (faS fo)
  |_=>none
 | .field S x i=>match t.fo' S i with
  |some f=>(opv env x).bind (fldS f)
  |none=>none
 | .nilCheck x=>(opv env x).bind nilS
 | .extract x i=>(opv env x).bind (extS i)
 | .unOp .not _ x=>(opv env x).bind notS
 | .unOp .neg _ x=>(opv env x).bind negS
 | .binOp b _ x y _=>match opv env x,opv env y with
  |some u1,some v1=>binS b u1 v1
  |_,_=>none
 | .convert S T x=>match t.un.get S,t.un.get T with
  |some _,some k=>(opv env x).bind (wQ k)
  |_,_=>none
 | .makeFunc f first caps=>match cw env first.toList,cw env caps.toList with
  |some a,some b=>some (.fn f a b)
  |_,_=>none
 |_=>none
theorem bW{α β:Type}{o:Option α}{f:α->Option β}{r:β}(h:o.bind f=some r):∃x,o=some x/\f x=some r:=by
 cases o with
 |none=>cases h
 |some x=>simp_all
section
variable{P:Program}{t:Ty}(ht:t.ok P=true){env:Env}{st:List AO}{dst:Option Tmp}{ty:TypeId}{pos:String}{after:Array Edge}{guard:Option (Nat×Bool)}
include ht
theorem kD{op:Op}{r:AV}(h:iG t env st op=some r):Yields P env st ⟨dst,op,ty,pos,after,guard⟩ r:=by
 cases op with
 |move x=>exact xd h
 |assign x=>exact sC h
 |pick c x y=>dsimp only[iG] at h;split at h;rename_i hc;obtain⟨z,h1,h2⟩:=bW hc;rw[iZ h2] at h1;exact sn h1 h;rename_i hc;obtain⟨z,h1,h2⟩:=bW hc;rw[iZ h2] at h1;exact so h1 h;cases h
 |load T x=>obtain⟨z,h1,h2⟩:=bW h;unfold wH at h2;split at h2;split at h2;grind [xe,jb];grind [uG,jb,Ty.sz_ok];cases h2;split at h2;grind [uF,jb];grind [sq,jb,Ty.sz_ok];cases h2;cases h2
 |fieldAddr S x i=>dsimp only[iG] at h;split at h;rename_i hf;obtain⟨z,h1,h2⟩:=bW h;unfold faS at h2;grind [nH,lg,mA];cases h
 |field S x i=>dsimp only[iG] at h;split at h;rename_i hf;obtain⟨z,h1,h2⟩:=bW h;unfold fldS at h2;split at h2;grind [uI,lg,sx];grind [sw,lg,ro];cases h2;cases h
 |nilCheck x=>obtain⟨z,h1,h2⟩:=bW h;unfold nilS at h2;grind [nC,nF,nD]
 |extract x i=>obtain⟨z,h1,h2⟩:=bW h;unfold extS at h2;grind [rp,pa]
 |unOp u T x=>
  cases u with
  |not=>obtain⟨z,h1,h2⟩:=bW h;unfold notS at h2;grind [y_not]
  |neg=>obtain⟨z,h1,h2⟩:=bW h;unfold negS at h2;grind [y_neg]
  |_=>cases h
 |binOp b T x y T'=>
  dsimp only[iG] at h;split at h;rename_i hu hv;unfold binS at h;split at h;rename_i k p k' q;cases hk:decide (k=k') with
  |false=>grind
  |true=>
   rw[hk] at h;have hk:=of_decide_eq_true hk;subst hk;simp only[cdT] at h;cases b<;>simp only[wI] at h<;>first|cases h|(obtain rfl:=inS h)
   grind [bM];grind [y_sub];grind [y_mul];exact y_eql hu hv;exact y_neq hu hv;exact y_lss hu hv;exact y_leq hu hv;exact y_gtr hu hv;exact y_geq hu hv
  cases b<;>simp only[wE] at h<;>first|cases h|(obtain rfl:=inS h)
  exact wB hu hv;exact y_nes hu hv;cases h;cases h
 |convert S T x=>dsimp only[iG] at h;split at h;rename_i hS hT;obtain⟨z,h1,h2⟩:=bW h;unfold wQ at h2;split at h2;obtain rfl:=inS h2;exact xf (oT ht hS) (oT ht hT) h1 rfl;cases h2;cases h
 |makeFunc f a b=>grind [iG,o7]
 |_=>cases h
end
def iE(ops:Array Oper)(env:Env):Option (Nat×Bool)->Option Bool
 |none=>some true
 |some (j,b)=>match(ops[j]?).bind (·.dst) with
  |some t=>match env.get t with
   |some (.d (.v (.bool x)))=>some (x==b)
   |some (.d (.v (.tuple _)))=>some false
   |_=>none
  |none=>none
def iH(t:Ty)(n:Nat)(ops:Array Oper)(st:List AO)(env:Env)(o:Oper):Option Env:=
 match iE ops env o.guard with
 |some true=>match o.dst with
  |some d=>bif Nat.ble (d+1) n then(match iG t env st o.op with
   |some r=>some ((d,r)::env)
   |none=>none) else none
  |none=>none
 |some false=>match o.dst with
  |some d=>bif Nat.ble (d+1) n then some ((d, .d (.v undef))::env) else none
  |none=>some env
 |none=>none
def iI(t:Ty)(n:Nat)(ops:Array Oper)(st:List AO):Nat->List Oper->Env->Option (List Oper×Env)
 |0,l,env=>some (l,env)
 |k+1,o::l,env=>match iH t n ops st env o with
  |some env'=>iI t n ops st k l env'
  |none=>none
 |_+1,[],_=>none
section
variable{P:Program}{t:Ty}(ht:t.ok P=true){e:En}{ops:Array Oper}{st:List AO}{R:Env->List AO->Prop}{n:Nat}{RQ:Env->Prop}
omit ht in
theorem dA{env:Env}{o:Oper}(h:iE ops env o.guard=some true):Wt ops env o true:=by unfold iE at h;grind [Wt.none,ce]
omit ht in
theorem dG{env:Env}{o:Oper}(h:iE ops env o.guard=some false):Wt ops env o false:=by unfold iE at h;split at h;cases h;rename_i j b hg;split at h;rename_i hj;split at h;grind [Wt.no];rename_i x hx;intro m φ w a he;simp only[Region.wanted,hg,hD he hj hx];rfl;cases h;cases h
include ht
theorem gh{env env':Env}{o:Oper}{l:List Oper}(h:iH t e.n ops st env o=some env')(k:WL P e ops l env' st R):WL P e ops (o::l) env st R:=by
 unfold iH at h;split at h;rename_i hw;split at h;rename_i d hd;cases hb:Nat.ble (d+1) e.n with
 |false=>grind
 |true=>rw[hb] at h;split at h;rename_i r hr;obtain rfl:=inS h;exact WL.q (kD ht hr) (dA hw) hd hb k;cases h
 cases h;grind [WL.skip,dG,WL.skip0];cases h
theorem sQ{env env':Env}{o:Oper}{l:List Oper}(h:iH t n ops st env o=some env')(k:WQ P n ops l env' st RQ):WQ P n ops (o::l) env st RQ:=by
 unfold iH at h;split at h;rename_i hw;split at h;rename_i d hd;cases hb:Nat.ble (d+1) n with
 |false=>grind
 |true=>rw[hb] at h;split at h;rename_i r hr;obtain rfl:=inS h;exact WQ.q (Yields.quiet (kD ht hr)) (dA hw) hd hb k;cases h
 cases h;grind [WQ.skip,dG,WQ.skip0];cases h
theorem qk:∀{k:Nat}{l l':List Oper}{env env':Env},iI t e.n ops st k l env=some (l',env')->WL P e ops l' env' st R->WL P e ops l env st R
 |0,l,l',env,env',h,k=>by obtain⟨rfl,rfl⟩:=Prod.mk.inj (inS h);exact k
 |j+1,[],l',env,env',h,k=>by cases h
 |j+1,o::l,l',env,env',h,k=>by
  unfold iI at h;split at h;rename_i hs;exact gh ht hs (qk h k);cases h
theorem qj:∀{k:Nat}{l l':List Oper}{env env':Env},iI t n ops st k l env=some (l',env')->WQ P n ops l' env' st RQ->WQ P n ops l env st RQ
 |0,l,l',env,env',h,k=>by obtain⟨rfl,rfl⟩:=Prod.mk.inj (inS h);exact k
 |j+1,[],l',env,env',h,k=>by cases h
 |j+1,o::l,l',env,env',h,k=>by
  unfold iI at h;split at h;rename_i hs;exact sQ ht hs (qj h k);cases h
end
theorem Rl{P:Program}[T:Tys P]{e:En}{ops:Array Oper}{st:List AO}{R:Env->List AO->Prop}{l l':List Oper}{env env':Env}(k:Nat)(h:iI T.t e.n ops st k l env=some (l',env'))(hw:WL P e ops l' env' st R):WL P e ops l env st R:=qk T.h h hw
theorem Rq{P:Program}[T:Tys P]{n:Nat}{ops:Array Oper}{st:List AO}{R:Env->Prop}{l l':List Oper}{env env':Env}(k:Nat)(h:iI T.t n ops st k l env=some (l',env'))(hw:WQ P n ops l' env' st R):WQ P n ops l env st R:=qj T.h h hw
inductive SS where
 |c(c:Code)(k:Ko)
 |x(x:Exit)(k:Ko)
 |l(ops:Array Oper)(l:List Oper)(k:Ko)
@[reducible] def SS.den(P:Program)(e:En)(env:Env)(st:List AO):SS->Prop
 | .c cd k=>WC P e cd k env st
 | .x ex k=>WE P e ex k env st
 | .l ops ol k=>WL P e ops ol env st (λenv' st'=>WE P e .normal k env' st')
def ctlC(k:Ko):Code->Option SS
 | .seq x y=>some (.c x (.seq y k))
 | .skip=>some (.x .normal k)
 | .ret=>some (.x .ret k)
 | .exit i=>some (.x (.exit i) k)
 | .block i x=>some (.c x (.blk i k))
 | .region _ a false=>bif bP a.toList then some (.l a a.toList k) else none
 |_=>none
def ctlX:Exit->Ko->Option SS
 | .normal, .seq c k=>some (.c c k)
 | .ret, .seq _ k=>some (.x .ret k)
 | .exit i, .seq _ k=>some (.x (.exit i) k)
 | .normal, .blk _ k=>some (.x .normal k)
 | .ret, .blk _ k=>some (.x .ret k)
 | .exit i, .blk j k=>bif Nat.beq i j then some (.x .normal k) else some (.x (.exit i) k)
 | .ret, .lp _ k=>some (.x .ret k)
 | .exit i, .lp _ k=>some (.x (.exit i) k)
 |_,_=>none
def nO(t:Ty)(n:Nat)(st:List AO)(env:Env):SS->Option (SS×Env)
 | .c cd k=>match ctlC k cd with
  |some s=>some (s,env)
  |none=>none
 | .x ex k=>match ctlX ex k with
  |some s=>some (s,env)
  |none=>none
 | .l _ [] k=>some (.x .normal k,env)
 | .l ops (o::l) k=>match iH t n ops st env o with
  |some env'=>some (.l ops l k,env')
  |none=>none
def kd(t:Ty)(n:Nat)(st:List AO):Nat->SS->Env->Option (SS×Env)
 |0,s,env=>some (s,env)
 |k+1,s,env=>match nO t n st env s with
  |some (s',env')=>kd t n st k s' env'
  |none=>none
section
variable{P:Program}{t:Ty}(ht:t.ok P=true){e:En}{st:List AO}
include ht
theorem sP{env env':Env}{s s':SS}(h:nO t e.n st env s=some (s',env'))(k:s'.den P e env' st):s.den P e env st:=by
 cases s with
 |c c κ=>
  dsimp only[nO] at h;split at h;rename_i s1 hc;obtain⟨rfl,rfl⟩:=Prod.mk.inj (inS h);cases c with
  |seq x y=>obtain rfl:=inS hc;exact mD k
  |skip=>obtain rfl:=inS hc;exact pY k
  |ret=>obtain rfl:=inS hc;exact sH k
  |exit i=>obtain rfl:=inS hc;exact pZ k
  |block i x=>obtain rfl:=inS hc;exact ge k
  |region i a b=>
   cases b with
   |true=>cases hc
   |false=>
    dsimp only[ctlC] at hc;cases hb:bP a.toList with
    |false=>grind
    |true=>rw[hb] at hc;obtain rfl:=inS hc;exact lJ (l:=a.toList) k hb
  |_=>cases hc
  cases h
 |x x κ=>dsimp only[nO] at h;split at h;rename_i s1 hc;obtain⟨rfl,rfl⟩:=Prod.mk.inj (inS h);unfold ctlX at hc;split at hc;grind [pb];grind [ky];grind [jO];grind [sG];grind [kz];grind [nbE,kA,jQ];grind [rt];grind [pg];cases hc;cases h
 |l ops l κ=>
  cases l with
  |nil=>obtain⟨rfl,rfl⟩:=Prod.mk.inj (inS h);exact WL.nil k
  |cons o l=>grind [nO,gh]
theorem eh:∀{k:Nat}{s s':SS}{env env':Env},kd t e.n st k s env=some (s',env')->s'.den P e env' st->s.den P e env st
 |0,s,s',env,env',h,k=>by obtain⟨rfl,rfl⟩:=Prod.mk.inj (inS h);exact k
 |j+1,s,s',env,env',h,k=>by
  unfold kd at h;split at h;rename_i hs;exact sP ht hs (eh h k);cases h
end
section
variable{P:Program}[T:Tys P]{e:En}{st:List AO}{env env':Env}{κ κ':Ko}
theorem Rcc{c:Code}{c':Code}(k:Nat)(h:kd T.t e.n st k (.c c κ) env=some ((.c c' κ'),env'))(hw:WC P e c' κ' env' st):WC P e c κ env st:=eh (s:=(.c c κ)) T.h h hw
theorem Rcx{c:Code}{x':Exit}(k:Nat)(h:kd T.t e.n st k (.c c κ) env=some ((.x x' κ'),env'))(hw:WE P e x' κ' env' st):WC P e c κ env st:=eh (s:=(.c c κ)) T.h h hw
theorem Rcl{c:Code}{ops':Array Oper}{l':List Oper}(k:Nat)(h:kd T.t e.n st k (.c c κ) env=some ((.l ops' l' κ'),env'))(hw:WL P e ops' l' env' st λenv' st'=>WE P e .normal κ' env' st'):WC P e c κ env st:=eh (s:=(.c c κ)) T.h h hw
theorem Rxc{x:Exit}{c':Code}(k:Nat)(h:kd T.t e.n st k (.x x κ) env=some ((.c c' κ'),env'))(hw:WC P e c' κ' env' st):WE P e x κ env st:=eh (s:=(.x x κ)) T.h h hw
theorem Rxx{x:Exit}{x':Exit}(k:Nat)(h:kd T.t e.n st k (.x x κ) env=some ((.x x' κ'),env'))(hw:WE P e x' κ' env' st):WE P e x κ env st:=eh (s:=(.x x κ)) T.h h hw
theorem Rxl{x:Exit}{ops':Array Oper}{l':List Oper}(k:Nat)(h:kd T.t e.n st k (.x x κ) env=some ((.l ops' l' κ'),env'))(hw:WL P e ops' l' env' st λenv' st'=>WE P e .normal κ' env' st'):WE P e x κ env st:=eh (s:=(.x x κ)) T.h h hw
theorem Rlc{ops:Array Oper}{l:List Oper}{c':Code}(k:Nat)(h:kd T.t e.n st k (.l ops l κ) env=some ((.c c' κ'),env'))(hw:WC P e c' κ' env' st):WL P e ops l env st (λenv' st'=>WE P e .normal κ env' st'):=eh (s:=(.l ops l κ)) T.h h hw
theorem Rlx{ops:Array Oper}{l:List Oper}{x':Exit}(k:Nat)(h:kd T.t e.n st k (.l ops l κ) env=some ((.x x' κ'),env'))(hw:WE P e x' κ' env' st):WL P e ops l env st (λenv' st'=>WE P e .normal κ env' st'):=eh (s:=(.l ops l κ)) T.h h hw
theorem Rll{ops:Array Oper}{l:List Oper}{ops':Array Oper}{l':List Oper}(k:Nat)(h:kd T.t e.n st k (.l ops l κ) env=some ((.l ops' l' κ'),env'))(hw:WL P e ops' l' env' st λenv' st'=>WE P e .normal κ' env' st'):WL P e ops l env st (λenv' st'=>WE P e .normal κ env' st'):=eh (s:=(.l ops l κ)) T.h h hw
end
end Go.Sk
namespace Go.Sk
open Go.RowKit (Below)
open Go.MapKept (IsKey sameNow_of_keys run_checkKey run_findKey run_keyThatStays)
def ixL{κ:Type}[DecidableEq κ]:List κ->κ->Option Nat
 |[],_=>none
 |a::l,k=>if a=k then some 0 else(ixL l k).map (·+1)
theorem qC{κ:Type}[DecidableEq κ]{k:κ}:∀{L:List κ}{j:Nat},ixL L k=some j->L[j]? =some k
 |[],_,h=>by cases h
 |a::L,j,h=>by
  unfold ixL at h;by_cases hp:a=k;rw[if_pos hp] at h;obtain rfl:=inS h;rw[hp];rfl;rw[if_neg hp,Option.map_eq_some_iff] at h;obtain⟨i,h1,rfl⟩:=h;rw[List.getElem?_cons_succ];exact qC h1
structure KeyX(P:Program){κ:Type}[DecidableEq κ](kt:TypeId)(kf:κ->Value):Prop where
 chk:∀em k w,(Instr.checkKey em 10000 kt (kf k)).run P w= .ok () w
 find:∀(k:κ)(L:List κ)(l:List MapEntry)(w:World),l.map (·.key)=L.map kf->(Instr.findKey kt (kf k) l).run P w= .ok ((ixL L k).bind λj=>(l[j]?).map λe=>(j,e.val)) w
 stays:∀k w,(Instr.keyThatStays (kf k) (kf k)).run P w= .ok (kf k) w
section
variable{κ:Type}[DecidableEq κ]{P:Program}{d:TypeDesc}{kt:TypeId}{kf:κ->Value}
theorem kW(hK:KeyF d kf)(k:κ):∀(L:List κ)(l:List MapEntry)(i:Nat),l.map (·.key)=L.map kf->Instr.findNow d (kf k) l i=some ((ixL L k).bind λj=>(l[j]?).map λe=>(i+j,e.val))
 |[],[],i,_=>rfl
 |a::L,e::l,i,h=>by
  simp only[List.map_cons,List.cons.injEq] at h;obtain⟨r,hr,hiff⟩:=sameNow_of_keys (hK.key k) (h.1▸hK.key a:IsKey d e.key);by_cases hp:a=k;have:r=true:=hiff.2 (by rw[h.1,hp]);simp[Instr.findNow,hr,this,ixL,hp];have hne:r=false:=by
   cases r with
   |false=>rfl
   |true=>exact absurd (hK.inj _ _ ((hiff.1 rfl).trans h.1)).symm hp
  rw[show ixL (a::L) k=(ixL L k).map (·+1) by rw[ixL,if_neg hp]];simp only[Instr.findNow,hr,hne,kW hK k L l (i+1) h.2];cases ixL L k with
  |none=>rfl
  |some j=>simp only[bnS,Option.map_some,List.getElem?_cons_succ];rw[show i+1+j=i+(j+1) by omega]
 |[],_::_,_,h=>by simp at h
 |_::_,[],_,h=>by simp at h
theorem gX(hK:KeyS P kt kf)(k:κ)(w:World):∀(L:List κ)(l:List MapEntry)(i:Nat),l.map (·.key)=L.map kf->(Instr.findAsking kt (kf k) l i).run P w= .ok ((ixL L k).bind λj=>(l[j]?).map λe=>(i+j,e.val)) w
 |[],[],i,_=>by simp[Instr.findAsking,ixL]
 |a::L,e::l,i,h=>by
  simp only[List.map_cons,List.cons.injEq] at h;have hr:=hK.eq k a w;rw[<-h.1] at hr;by_cases hp:a=k;simp[Instr.findAsking,hr,hp,ixL];have hp':¬k=a:=λe=>hp e.symm;rw[show ixL (a::L) k=(ixL L k).map (·+1) by rw[ixL,if_neg hp]];simp only[Instr.findAsking,Sem.run_bind,hr,hp',decide_false,Result.andThen_ok,Bool.false_eq_true,if_false,gX hK k w L l (i+1) h.2];cases ixL L k with
  |none=>rfl
  |some j=>simp only[bnS,Option.map_some,List.getElem?_cons_succ];rw[show i+1+j=i+(j+1) by omega]
 |[],_::_,_,h=>by simp at h
 |_::_,[],_,h=>by simp at h
theorem uz(hd:P.underlying kt=some d)(hK:KeyF d kf):KeyX P kt kf:=
 ⟨λem k w=>by simp[run_checkKey hd (hK.key k)],λk L l w h=>run_findKey hd (by simpa using kW hK k L l 0 h),λk w=>by simp[run_keyThatStays (hK.key k)]⟩
theorem uy(hK:KeyS P kt kf):KeyX P kt kf:=
 ⟨hK.chk,λk L l w h=>by rw[run_findKey_eq (P:=P) w hK.wide (kf k) l];simpa using gX hK k w L l 0 h,λk w=>gt hK k w⟩
end
inductive KDk where
 |i(k:IntKind)
 |p(k1 k2:IntKind)
def mc(P:Program)(kt:TypeId):Option KDk:=match P.underlying kt with
 |some (.int k)=>some (.i k)
 |some (.struct fs)=>(match fs.toList with
  |[f1,f2]=>(match P.underlying f1.type,P.underlying f2.type,iQ P 100 kt with
   |some (.int k1),some (.int k2),some [.int k1', .int k2']=>bif decide (k1=k1')&&(decide (k2=k2')&&(Nat.beq f1.offset 0&&Nat.beq f2.offset 1)) then some (.p k1 k2) else none
   |_,_,_=>none)
  |_=>none)
 |_=>none
def dkI(k:IntKind):Value->Option Int
 | .int k' i=>bif decide (k=k') then some i else none
 |_=>none
def dkP(k1 k2:IntKind):Value->Option (Int×Int)
 | .agg a=>(match a.toList with
  |[.int a1 i, .int a2 j]=>bif decide (k1=a1)&&decide (k2=a2) then some (i,j) else none
  |_=>none)
 |_=>none
theorem ua{k:IntKind}{v:Value}{i:Int}(h:dkI k v=some i):v= .int k i:=by
 unfold dkI at h;split at h;rename_i k' j;cases hb:decide (k=k') with
 |true=>rw[hb] at h;obtain rfl:=inS h;rw[of_decide_eq_true hb]
 |false=>rw[hb] at h;cases h
 cases h
theorem t9{k1 k2:IntKind}{v:Value}{x:Int×Int}(h:dkP k1 k2 v=some x):v= .agg ⟨[.int k1 x.1, .int k2 x.2]⟩:=by
 unfold dkP at h;split at h;rename_i a;split at h;rename_i a1 i a2 j hl;cases hb:decide (k1=a1)&&decide (k2=a2) with
 |true=>rw[hb] at h;obtain rfl:=inS h;rw[Bool.and_eq_true] at hb;obtain⟨a⟩:=a;simp only at hl;rw[hl,of_decide_eq_true hb.1,of_decide_eq_true hb.2]
 |false=>rw[hb] at h;cases h
 cases h;cases h
theorem qB{P:Program}{kt:TypeId}{k:IntKind}(h:mc P kt=some (.i k)):KeyX P kt (λx:Int=>Value.int k x):=by unfold mc at h;split at h;rename_i k' hu;simp only[ay,KDk.i.injEq] at h;subst h;exact uz hu (KeyF.int _);split at h;split at h;rw[Bool.cond_eq_ite] at h;split at h<;>cases h;cases h;cases h;cases h
theorem qA{P:Program}{kt:TypeId}{k1 k2:IntKind}(h:mc P kt=some (.p k1 k2)):KeyX P kt (λx:Int×Int=>Value.agg ⟨[.int k1 x.1, .int k2 x.2]⟩):=by
 unfold mc at h;split at h;cases h;rename_i fs hu;split at h;rename_i f1 f2 hf;split at h;rename_i a1 a2 b1 b2 h1 h2 h3;cases hb:(decide (a1=b1)&&(decide (a2=b2)&&(Nat.beq f1.offset 0&&Nat.beq f2.offset 1))) with
 |true=>rw[hb] at h;simp only[cdT,ay,KDk.p.injEq] at h;obtain⟨rfl,rfl⟩:=h;simp only[Bool.and_eq_true] at hb;obtain⟨c1,c2,c3,c4⟩:=hb;have c1:=of_decide_eq_true c1;have c2:=of_decide_eq_true c2;subst c1 c2;obtain⟨fs⟩:=fs;simp only at hf;subst hf;exact uy (jK hu h1 h2 (nbE c3) (nbE c4) h3)
 |false=>rw[hb] at h;cases h
 cases h;cases h;cases h
def ov{κ:Type}(dk:Value->Option κ):List (Value×Nat)->Option (List κ)
 |[]=>some []
 |p::l=>match dk p.1,ov dk l with
  |some k,some ks=>some (k::ks)
  |_,_=>none
theorem kS{κ:Type}{dk:Value->Option κ}{kf:κ->Value}(hd:∀v k,dk v=some k->v=kf k):∀{es:List (Value×Nat)}{L:List κ},ov dk es=some L->es.map (·.1)=L.map kf
 |[],L,h=>by obtain rfl:=inS h;rfl
 |p::l,L,h=>by
  unfold ov at h;split at h;rename_i h1 h2;obtain rfl:=inS h;rw[List.map_cons,List.map_cons,hd _ _ h1,kS hd h2];cases h
def p9:List AV->Option (List Value)
 |[]=>some []
 | .d (.v v)::l=>match p9 l with
  |some vs=>some (v::vs)
  |none=>none
 |_=>none
def qa:List D->Option (List Value)
 |[]=>some []
 | .v v::l=>match qa l with
  |some vs=>some (v::vs)
  |none=>none
 |_=>none
def agV:AV->Option (List Value)
 | .ag ps=>p9 ps
 | .d (.ag ds)=>qa ds
 |_=>none
theorem nJ:∀{ps:List AV}{vs:List Value},p9 ps=some vs->ps=(vs.map D.v).map AV.d
 |[],vs,h=>by obtain rfl:=inS h;rfl
 |x::l,vs,h=>by
  unfold p9 at h;split at h;rename_i h0;cases h0;rename_i v l' h0;obtain⟨rfl,rfl⟩:=List.cons.inj h0;split at h;rename_i vs' h1;obtain rfl:=inS h;rw[nJ h1];rfl;cases h;cases h
theorem nK:∀{ps:List D}{vs:List Value},qa ps=some vs->ps=vs.map D.v
 |[],vs,h=>by obtain rfl:=inS h;rfl
 |x::l,vs,h=>by
  unfold qa at h;split at h;rename_i h0;cases h0;rename_i v l' h0;obtain⟨rfl,rfl⟩:=List.cons.inj h0;split at h;rename_i vs' h1;obtain rfl:=inS h;rw[nK h1];rfl;cases h;cases h
theorem lc{x:AV}{vs:List Value}(h:agV x=some vs):Le x (.d (.ag (vs.map D.v))):=by unfold agV at h;split at h;rw[nJ h];exact bC (Les.refl _);rw[nK h];exact Le.refl _;cases h
def vz(x:AV):Option Value:=match x with
 | .d (.v v)=>some v
 |x=>(agV x).map λvs=> .agg ⟨vs⟩
theorem qz{m φ w}{x:AV}{v y:Value}(h:vz x=some v)(hr:RA m φ w x y):y=v:=by unfold vz at h;split at h;obtain rfl:=inS h;simpa[RA,RD] using hr;rw[Option.map_eq_some_iff] at h;obtain⟨vs,h1,rfl⟩:=h;have:=lc h1 _ _ _ _ hr;simp only[RA,RD] at this;obtain⟨cs,e1,e2⟩:=this;rw[eQ e2] at e1;exact e1
def lkG{κ:Type}[DecidableEq κ](dk:Value->Option κ)(es:List (Value×Nat))(xs:List AV)(zv kv:Value):Option (AV×Bool):=
 match dk kv,ov dk es with
 |some k,some L=>(match ixL L k with
  |some j=>(match xs[j]? with
   |some x=>some (x,true)
   |none=>none)
  |none=>some (fU zv,false))
 |_,_=>none
def lkD(P:Program)(kt:TypeId)(es:List (Value×Nat))(xs:List AV)(zv kv:Value):Option (AV×Bool):=match mc P kt with
 |some (.i k)=>lkG (dkI k) es xs zv kv
 |some (.p k1 k2)=>lkG (dkP k1 k2) es xs zv kv
 |none=>none
def tuB(c:Bool)(r:AV×Bool):AV:=bif c then .tu [r.1, .d (.v (.bool r.2))] else r.1
def lkX(P:Program)(env:Env)(st:List AO)(T:TypeId)(x ki:Operand)(c:Bool):Option AV:=
 match P.underlying T,opv env x,(opv env ki).bind vz with
 |some (.map kt et),some xr,some kv=>(match(P.info? et).bind (·.zero),xr with
  |some zv, .mp id=>(match st[id]? with
   |some (.mb es xs _)=>(match lkD P kt es xs zv kv with
    |some r=>some (tuB c r)
    |none=>none)
   |_=>none)
  |some zv, .d (.v (.map none))=>(match lkD P kt [] [] zv kv with
   |some r=>some (tuB c r)
   |none=>none)
  |_,_=>none)
 |_,_,_=>none
def muG{κ:Type}[DecidableEq κ](dk:Value->Option κ)(es:List (Value×Nat))(xs:List AV)(cl:Nat)(kv:Value)(uu:AV):Option AO:=
 match dk kv,ov dk es with
 |some k,some L=>(match ixL L k with
  |some j=>some (.mb es (xs.set j uu) cl)
  |none=>some (.mb (es++ [(kv,cl)]) (xs++ [uu]) (cl+1)))
 |_,_=>none
def muX(P:Program)(env:Env)(st:List AO)(T:TypeId)(x ki v:Operand):Option (AV×List AO):=
 match P.underlying T,opv env x,(opv env ki).bind vz,opv env v with
 |some (.map kt _),some (.mp id),some kv,some uu=>(match st[id]? with
  |some (.mb es xs cl)=>(match(match mc P kt with
    |some (.i k)=>muG (dkI k) es xs cl kv uu
    |some (.p k1 k2)=>muG (dkP k1 k2) es xs cl kv uu
    |none=>none) with
   |some o=>some (.d (.v undef),st.set id o)
   |none=>none)
  |_=>none)
 |_,_,_,_=>none
def rgX(P:Program)(env:Env)(st:List AO)(T:TypeId)(x:Operand):Option (AV×List AO):=
 match P.underlying T,opv env x with
 |some (.map _ _),some (.mp id)=>(match st[id]? with
  |some (.mb _ _ cl)=>some (.pt st.length 0,st++ [.it (.mp id) cl [] cl])
  |_=>none)
 |some (.map _ _),some (.d (.v (.map none)))=>some (.pt st.length 0,st++ [.it (.d (.v (.map none))) 0 [] 0])
 |_,_=>none
def qW(es:List (Value×Nat))(s:Nat):Option Nat:=match es with
 |[]=>none
 |p::l=>bif Nat.beq p.2 s then some 0 else(match qW l s with
  |some j=>some (j+1)
  |none=>none)
def enX(env:Env)(st:List AO)(x:Operand):Option AV:=match opv env x with
 |some (.pt iid 0)=>(match st[iid]? with
  |some (.it (.mp id) _ seen stp)=>(match seen.getLast?,st[id]? with
   |some s,some (.mb es xs cl)=>bif Nat.beq cl stp then(match qW es s with
    |some j=>(match es[j]?,xs[j]? with
     |some p,some r=>some (.tu [fU p.1,r])
     |_,_=>none)
    |none=>none) else none
   |_,_=>none)
  |_=>none)
 |_=>none
section
variable{P:Program}{env:Env}{st:List AO}{dst:Option Tmp}{ty:TypeId}{pos:String}{after:Array Edge}{guard:Option (Nat×Bool)}
theorem tx{κ:Type}[DecidableEq κ]{dk:Value->Option κ}{kf:κ->Value}(hd:∀v k,dk v=some k->v=kf k){kt:TypeId}(hK:KeyX P kt kf){es:List (Value×Nat)}{xs:List AV}{zv kv:Value}{r:AV×Bool}(h:lkG dk es xs zv kv=some r)
  {m φ w}{l:List MapEntry}(q2:l.map (λe=>(e.key,e.born))=es)(q3:RAs m φ w xs (l.map (·.val))):
  (∀w' em,(Instr.checkKey em 10000 kt kv).run P w'= .ok () w')/\((r=(fU zv,false)/\∀w',(Instr.findKey kt kv l).run P w'= .ok none w')\/∃j v,r.2=true/\RA m φ w r.1 v/\∀w',(Instr.findKey kt kv l).run P w'= .ok (some (j,v)) w'):=by
 unfold lkG at h;split at h;rename_i k L hk hL;have e1:=hd _ _ hk;subst e1;have hkeys:l.map (·.key)=L.map kf:=by rw[<-kS hd hL,<-q2,List.map_map];rfl
 have hf:=λw'=>hK.find k L l w' hkeys;refine⟨λw' em=>hK.chk em k w',?_⟩;split at h;rename_i j hj;split at h;rename_i x hx;obtain rfl:=inS h;obtain⟨v,h1,h2⟩:=cF q3 hx;rw[List.getElem?_map,Option.map_eq_some_iff] at h1;obtain⟨e,h3,rfl⟩:=h1;refine .inr ⟨j,e.val,rfl,h2,λw'=>?_⟩;rw[hf w',hj,bnS,h3,Option.map_some];cases h;rename_i hj;obtain rfl:=inS h;exact .inl ⟨rfl,λw'=>by rw[hf w',hj,Option.bind_none]⟩;cases h
theorem tz{kt:TypeId}{es:List (Value×Nat)}{xs:List AV}{zv kv:Value}{r:AV×Bool}(h:lkD P kt es xs zv kv=some r)
  {m φ w}{l:List MapEntry}(q2:l.map (λe=>(e.key,e.born))=es)(q3:RAs m φ w xs (l.map (·.val))):
  (∀w' em,(Instr.checkKey em 10000 kt kv).run P w'= .ok () w')/\((r=(fU zv,false)/\∀w',(Instr.findKey kt kv l).run P w'= .ok none w')\/∃j v,r.2=true/\RA m φ w r.1 v/\∀w',(Instr.findKey kt kv l).run P w'= .ok (some (j,v)) w'):=by
 unfold lkD at h;split at h;rename_i hk;exact tx (λ_ _=>ua) (qB hk) h q2 q3;rename_i hk;exact tx (λ_ _=>t9) (qA hk) h q2 q3;cases h
theorem xE{T:TypeId}{x ki:Operand}{c:Bool}{r:AV}(h:lkX P env st T x ki c=some r):Yields P env st ⟨dst, .lookup T x ki c,ty,pos,after,guard⟩ r:=λm φ a w hs he=>by
 unfold lkX at h;split at h;rename_i kt et xr kv hT hx hk;obtain⟨ka,hk1,hk2⟩:=bW hk;have hkv:a.eval ki=kv:=qz hk2 (bd he hk1);have htu:∀{r0:AV×Bool}{v:Value},RA m φ w r0.1 v->RA m φ w (tuB c r0) (if c then .tuple #[v, .bool r0.2] else v):=λ{r0 v} h9=>by
  cases c with
  |true=>simp only[tuB,cdT,if_true,RA];exact⟨_,rfl,bp h9 (bp RAv cf)⟩
  |false=>simpa[tuB] using h9
 split at h;rename_i zv id hz;cases hinf:P.info? et with
 |none=>simp[hinf] at hz
 |some inf=>
  simp only[hinf,bnS] at hz;split at h;rename_i es xs cl hst;split at h;rename_i r0 hr0;obtain rfl:=inS h;obtain⟨b,h1,h2⟩:=gp he hx;obtain⟨b',hbb,h0,l,g1,g2,g3⟩:=hs.obj id _ _ hst h1;simp only[Cz.blk.injEq] at hbb;subst hbb;have hlt:=bY g1;obtain⟨p1,p2⟩:=tz hr0 g2 g3;rcases p2 with⟨rfl,p2⟩|⟨j,v,p2,p3,p4⟩
  refine⟨if c then .tuple #[zv, .bool false] else zv,htu (jf zv),λw' hb=>?_⟩;have g1':w'.heap[b]? =some (.map ⟨l⟩ cl):=by rw[hb.block b hlt];exact g1
  simp[execOp,Instr.lookup,h2,hkv,run_underlying hT,MapKept.run_getObj_map g1',p1,p2,zeroValue,typeInfo,hinf,hz,Result.andThen];refine⟨if c then .tuple #[v, .bool true] else v,by have:=htu p3;rw[p2] at this;exact this,λw' hb=>?_⟩;have g1':w'.heap[b]? =some (.map ⟨l⟩ cl):=by rw[hb.block b hlt];exact g1
  simp[execOp,Instr.lookup,h2,hkv,run_underlying hT,MapKept.run_getObj_map g1',p1,p4,Result.andThen];cases h;cases h
 rename_i zv hz;cases hinf:P.info? et with
 |none=>simp[hinf] at hz
 |some inf=>
  simp only[hinf,bnS] at hz;split at h;rename_i r0 hr0;obtain rfl:=inS h;have h2:=aV he hx;obtain⟨p1,p2⟩:=tz (m:=m) (φ:=φ) (w:=w) (l:=[]) hr0 rfl cf;rcases p2 with⟨rfl,p2⟩|⟨j,v,p2,p3,p4⟩
  refine⟨if c then .tuple #[zv, .bool false] else zv,htu (jf zv),λw' hb=>?_⟩;simp[execOp,Instr.lookup,h2,hkv,run_underlying hT,p1,p2,zeroValue,typeInfo,hinf,hz,Result.andThen];refine⟨if c then .tuple #[v, .bool true] else v,by have:=htu p3;rw[p2] at this;exact this,λw' hb=>?_⟩;simp[execOp,Instr.lookup,h2,hkv,run_underlying hT,p1,p4,Result.andThen];cases h
 cases h;cases h
end
end Go.Sk
namespace Go.Sk
open Go.RowKit (Below)
def byV:List (List AV)->Option (List UInt8)
 |[]=>some []
 |[.d (.v (.int .u8 n))]::l=>bif decide (0<=n)&&decide (n<256) then(match byV l with
  |some bs=>some (UInt8.ofNat n.toNat::bs)
  |none=>none) else none
 |_=>none
theorem uf:∀{es:List (List AV)}{bs:List UInt8},byV es=some bs->es.flatten=(bs.map λb=>Value.int .u8 (b.toNat:Int)).map (λv=>AV.d (D.v v))/\bs.length=es.length
 |[],bs,h=>by obtain rfl:=inS h;exact⟨rfl,rfl⟩
 |e::l,bs,h=>by
  unfold byV at h;split at h;rename_i h0;cases h0;rename_i n l' h0;obtain⟨rfl,rfl⟩:=List.cons.inj h0;cases hb:decide (0<=n)&&decide (n<256) with
  |false=>rw[hb] at h;cases h
  |true=>
   rw[hb,cdT] at h;rw[Bool.and_eq_true] at hb;have h1:=of_decide_eq_true hb.1;have h2:=of_decide_eq_true hb.2;split at h;rename_i bs' hbs;obtain rfl:=inS h;obtain⟨k1,k2⟩:=uf hbs;refine⟨?_,by simp[k2]⟩;have:((UInt8.ofNat n.toNat).toNat:Int)=n:=by rw[UInt8.toNat_ofNat'];omega
   simp only[List.flatten_cons,List.map_cons,this,k1];rfl;cases h
  cases h
theorem wU{m φ w}:∀{vs ys:List Value},RAs m φ w (vs.map λv=>AV.d (D.v v)) ys->ys=vs
 |[],ys,h=>by simpa[RAs] using h
 |v::vs,ys,h=>by
  simp only[List.map_cons,RAs] at h;obtain⟨c,cs,rfl,h1,h2⟩:=h;simp only[RA,RD] at h1;rw[h1,wU h2]
section
variable{P:Program}{env:Env}{st:List AO}{dst:Option Tmp}{ty:TypeId}{pos:String}{after:Array Edge}{guard:Option (Nat×Bool)}
theorem y_b2s{S T e:TypeId}{x:Operand}{id ver Te k:Nat}{es:List (List AV)}{bs:List UInt8}(hS:P.underlying S=some (.slice e))(he8:P.underlying e=some (.int .u8))(hT:P.underlying T=some .string)(hx:opv env x=some (.os id ver))(hi:st[id]? =some (.os Te k ver es))(hb:byV es=some bs):
  Yields P env st ⟨dst, .convert S T x,ty,pos,after,guard⟩ (.d (.v (.string ⟨bs.toArray⟩))):=λm φ a w hs he=>by
 obtain⟨y,xs,h1,h2,h3,h4,h5,h6⟩:=ie hs he hx hi;obtain⟨k1,k2⟩:=uf hb;rw[k1] at h4;have hxs:=wU h4;subst hxs;refine⟨.string ⟨bs.toArray⟩,RAv,λw' hbl=>?_⟩;rcases h3.2 with⟨rfl,hn⟩|⟨g,cap,cur,rfl,_,hg,_⟩
 have:bs=[]:=List.eq_nil_of_length_eq_zero (by rw[k2];exact hn);subst this;have:=run_convert_bytes_string (P:=P) w' S T e none 0 0 hS he8 hT;simp[execOp,h2,this,Conv.bytesToString];rfl;rw[<-k2] at h3 h2;have hc:∀j (hj:j<bs.length),w'.cell? ((⟨g,0,none⟩:Addr).add j)=some (.int .u8 (bs[j].toNat:Int)):=λj hj=>by
  have:=eE h3 (j:=j) (u:= .int .u8 (bs[j].toNat:Int)) (by simp[geG hj]);rw[cM];rw[cQ (hbl.block g (bY hg))];simpa using this
 have:=run_convert_bytes_back (P:=P) w' S T e ⟨g,0,none⟩ cap bs hS he8 hT hc;simp[execOp,h2,this]
theorem ss{T kt et:TypeId}{x:Operand}{id cl:Nat}{es:List (Value×Nat)}{xs:List AV}{c:Call}(hT:P.underlying T=some (.map kt et))(hc:c=⟨.builtin .len, #[x], #[T]⟩)(hx:opv env x=some (.mp id))(hi:st[id]? =some (.mb es xs cl)):
  Yields P env st ⟨dst, .call c,ty,pos,after,guard⟩ (.d (.v (.int .i64 es.length))):=λm φ a w hs he=>by
 obtain⟨b,h1,h2⟩:=gp he hx;obtain⟨b',hbb,h0,l,g1,g2,g3⟩:=hs.obj id _ _ hi h1;simp only[Cz.blk.injEq] at hbb;subst hbb;have hlen:es.length=l.length:=by rw[<-g2,List.length_map]
 refine⟨_,RAv,λw' hb=>?_⟩;subst hc;have e1:w'.heap[b]? =some (.map ⟨l⟩ cl):=by rw[hb.block b (bY g1)];exact g1
 have f1:(getObj b).run P w'= .ok (.map ⟨l⟩ cl) w':=by simp[getObj,Sem.run,e1]
 simp[execOp,resolve,invoke,builtin,Builtin.len_,h2,run_underlying hT,f1,goInt,hlen]
end
end Go.Sk
namespace Go.Sk
open Go.RowKit (Below)
def oQ(L:List Int):ByteArray:=⟨(L.map λn=>UInt8.ofNat n.toNat).toArray⟩
def iY(L:List Int):Bool:=L.all λn=>decide (0<=n)&&decide (n<256)
section
variable{P:Program}{env:Env}{st:List AO}{dst:Option Tmp}{ty:TypeId}{pos:String}{after:Array Edge}{guard:Option (Nat×Bool)}
theorem mB{S T e:TypeId}{x:Operand}{xr:AV}{L:List Int}{E:Int->List D}(hS:P.underlying S=some (.slice e))(he8:P.underlying e=some (.int .u8))(hT:P.underlying T=some .string)(hx:opv env x=some xr)(hle:Le xr (.d (.sl (L.map E))))(hE:∀n,E n=[.v (.int .u8 n)])(hL:iY L=true):
  Yields P env st ⟨dst, .convert S T x,ty,pos,after,guard⟩ (.d (.v (.string (oQ L)))):=λm φ a w hs he=>by
 have h:=mQ he hx hle;simp only[RD] at h;refine⟨.string (oQ L),RAv,λw' hbl=>?_⟩;rcases h with⟨h0,ad,cap,h2,h3⟩|⟨b,off,k,cap,h2,h3,h4,h5⟩
 have hn:L=[]:=List.map_eq_nil_iff.1 h0;subst hn;cases ad with
 |none=>have h6:=h3 rfl;subst h6;have:=run_convert_bytes_string (P:=P) w' S T e none 0 0 hS he8 hT;simp[execOp,h2,this,Conv.bytesToString];rfl
 |some ad=>have:=run_convert_bytes_back (P:=P) w' S T e ad cap [] hS he8 hT (λj hj=>by simp at hj);simp only[List.length_nil] at this;simp[execOp,h2,this];rfl
 have hc:∀j (hj:j<(L.map λn=>UInt8.ofNat n.toNat).length),w'.cell? ((⟨b,off,none⟩:Addr).add j)=some (.int .u8 ((L.map λn=>UInt8.ofNat n.toNat)[j].toNat:Int)):=λj hj=>by
  have hjl:j<L.length:=by simpa using hj
  have hk:k=1:=by have:=h4 (E L[j]) (List.mem_map_of_mem (List.getElem_mem hjl));rw[hE] at this;exact this.symm
  subst hk;have h6:=nu h5 (i:=j) (e:=E L[j]) (by rw[List.getElem?_map,geG hjl];rfl);rw[hE] at h6;simp only[RPs,Nat.mul_one] at h6;obtain⟨⟨_,c,h7,h8⟩,_⟩:=h6;simp only[RD] at h8;subst h8;replace h7:=dO h7;have hlt:b<w.heap.size:=by
   rcases Nat.lt_or_ge b w.heap.size with h9|h9
   exact h9;simp[World.cell?,Array.getElem?_eq_none h9] at h7
  have h9:=List.all_eq_true.1 hL _ (List.getElem_mem hjl);rw[Bool.and_eq_true] at h9;have g1:=of_decide_eq_true h9.1;have g2:=of_decide_eq_true h9.2;have e1:(((L.map λn=>UInt8.ofNat n.toNat)[j]).toNat:Int)=L[j]:=by rw[List.getElem_map,UInt8.toNat_ofNat'];omega
  rw[e1,cM,cQ (hbl.block b hlt)];exact h7
 have:=run_convert_bytes_back (P:=P) w' S T e ⟨b,off,none⟩ cap (L.map λn=>UInt8.ofNat n.toNat) hS he8 hT hc;rw[List.length_map] at this h2;simp[execOp,h2,this];rfl
end
end Go.Sk
namespace Go.Sk
variable{P:Program}{e:En}{env:Env}{st:List AO}{K:Ko}
theorem uJ{k:Ko}{x:Code}(J:Env->List AO->Prop)(h1:WC P e x (.lp J k) env st)(h2:∀env' st',J env' st'->WE P e .normal k env' st'):WC P e x k env st:=λm φ a w hi=>by
 refine wpIn_mono (h1 m φ a w hi) ?_;intro ex a' w' hq;cases ex with
 |normal=>obtain⟨env',st',m',φ',hJ,hi'⟩:=hq;exact h2 env' st' hJ m' φ' a' w' hi'
 |_=>exact hq
end Go.Sk
namespace Go.Sk
section
variable{P:Program}{env:Env}{st:List AO}{dst:Option Tmp}{ty:TypeId}{pos:String}{after:Array Edge}{guard:Option (Nat×Bool)}
theorem d_pop{T k e:Nat}{bb:Bool}{x:Operand}{hi:Option Operand}{id ver h:Nat}{es:List (List AV)}(hT:aZ P T=some (k,bb))(hx:opv env x=some (.os id ver))(hi':st[id]? =some (.os e k ver es))
  (hhi:Bnd env hi es.length h)(h2:h<=es.length):
  Does P env st ⟨dst, .slice T x none hi none,ty,pos,after,guard⟩ (.os id (ver+1)) (st.set id (.os e k (ver+1) (es.take h))):=λm φ a w hsr he=>by
 obtain⟨y,xs,g1,g2,g3,g4,g5,g6⟩:=ie hsr he hx hi';obtain⟨t,q1,q2,_⟩:=dT hT;have hl:Bnd env none 0 0:=rfl;have key:∃y',(execOp a.eval ⟨dst, .slice T x none hi none,ty,pos,after,guard⟩).run P w= .ok (.value y') w/\w.ownsRow 0 e k y' h (xs.take (h*k))/\y'.ownBlock=y.ownBlock:=by
  rcases g3.2 with⟨rfl,hn⟩|⟨g,cap,cur,rfl,r1,r2,r3,r4,r5,r6⟩
  have h0:h=0:=oM;subst h0;refine⟨.slice none 0 0,?_,⟨sM, .inl ⟨rfl,rfl⟩⟩,rfl⟩;have:=cY (P:=P) (len:=es.length) (cap:=0) he hl hhi (Nat.le_refl _) (Nat.le_refl 0) w;rw[hn] at this;simp_all [execOp,Instr.sliceAt,run_underlying q1,Instr.slice,aP q2];refine⟨.slice (some ⟨g,0,none⟩) h cap,?_,⟨?_, .inr ⟨g,cap,cur,rfl,r1,r2,oM,r4,r5,?_⟩⟩,rfl⟩;have:=cY (P:=P) (len:=es.length) (cap:=cap) he hl hhi (Nat.zero_le _) oM w;by_cases hcl:cap=0;subst hcl;have:h=0:=oM;subst this;simp_all [execOp,Instr.sliceAt,run_underlying q1,Instr.slice,aP q2];have hcl':¬(0=cap):=λh=>hcl h.symm;simp only[Option.map_none] at this;simp[execOp,Instr.sliceAt,run_underlying q1,Instr.slice,g2,this,aP q2,hcl,hcl',Addr.add];rw[List.length_take,g3.1];exact Nat.min_eq_left (Nat.mul_le_mul_right _ h2);rw[<-r6,List.take_take,Nat.min_eq_left (Nat.mul_le_mul_right _ h2)]
 obtain⟨y',k1,k2,k3⟩:=key;have hobj:OR (m.set id (.tok (ver+1) y')) φ w (.os e k (ver+1) (es.take h)) (.tok (ver+1) y'):=by
  have hpre:Pre m (m.set id (.tok (ver+1) y')):=λi d hd=>by
   by_cases hii:i=id;subst hii;rw[g1] at hd;simp only[ay] at hd;subst hd;exact⟨_,by rw[List.getElem?_set_self (dD g1)],eJ _ _ _⟩;exact⟨d,by rw[List.getElem?_set_ne (Ne.symm hii)];exact hd,Cz.le_refl d⟩
  refine⟨y',_,rfl,by rw[List.length_take,Nat.min_eq_left h2];exact k2,?_,λf hf=>g5 f (List.mem_of_mem_take hf),λb hb=>g6 b (by rw[<-k3];exact hb)⟩;rw[fh es h g5];exact cq _ (RAs.mono hpre (Fz.refl _ _) _ _ g4)
 obtain⟨j1,j2⟩:=fG (o':= .os e k (ver+1) (es.take h)) (c':= .tok (ver+1) y') (φ':=φ) (w':=w) hsr hi' rfl g1 (eJ _ _ _) rfl rfl rfl (Nat.le_refl _)
  (λb hb hn=>⟨rfl,rfl⟩) (Fz.refl _ _) hsr.lt (λb hb=> .inl (by simpa[Cz.has,k3] using hb)) hobj
 refine⟨y',w,_,φ, .inl k1,j1,j2,?_⟩;simp only[RA];exact⟨ver+1,y',by rw[List.getElem?_set_self (dD g1)],Nat.le_refl _,λ_=>rfl⟩
end
end Go.Sk
namespace Go.Sk
open Go.RowKit (Below)
theorem gD{m φ w st k}(hs:SR m φ st w):∀{xs:List AV}{vs:List Value},RAs m φ w xs vs->(xs.all λx=>x.okS st&&Nat.beq x.cells.length k)=true->(∀v∈vs,v.cells.size=k)/\RAs m φ w (xs.map AV.cells).flatten (vs.map (·.cells.toList)).flatten
 |[],vs,h,_=>by simp only[RAs] at h;subst h;simp[RAs]
 |x::xs,vs,h,hk=>by
  simp only[RAs] at h;obtain⟨c,cs,rfl,h2,h3⟩:=h;simp only[List.all_cons,Bool.and_eq_true] at hk;obtain⟨⟨k1,k2⟩,k3⟩:=hk;have k2:=nbE k2;obtain⟨us,g1,g2⟩:=fx hs h2 k1;obtain⟨i1,i2⟩:=gD hs h3 k3;have hl:=a9 g2;refine⟨λv hv=>?_,?_⟩;rcases List.mem_cons.1 hv with rfl|hv
  rw[g1];simp;omega;exact i1 v hv;simp only[List.map_cons,List.flatten_cons,g1];exact ba g2 i2
section
variable{P:Program}{env:Env}{st:List AO}{dst:Option Tmp}{ty:TypeId}{pos:String}{after:Array Edge}{guard:Option (Nat×Bool)}
theorem aX{T e k by_ len:Nat}{zs:List Value}{parts:Array (Nat×Operand)}{xs:List AV}(hT:bR P T=some (e,k,by_))(hz:aW P e=some zs)(hzl:zs.length=k)(hlen:len*k<=16777216)(h0:0<len*k)(hidx:parts.toList.map (·.1)=List.range len)
  (hx:cw env (parts.toList.map (·.2))=some xs)(hok:(xs.all λx=>x.okS st&&Nat.beq x.cells.length k)=true)(hm:len<=maxLen):
  NewOs P env st ⟨dst, .buildSlice T len parts,ty,pos,after,guard⟩ e k (xs.map AV.cells):=λm φ a w hs he=>by
 obtain⟨i,ht,hi,rfl,rfl⟩:=eP hT;obtain⟨z,hz1,hz2⟩:=eV hz hi;have hpl:parts.toList.length=len:=by have:=congrArg List.length hidx;simpa using this
 have hxl:xs.length=len:=by have:=dJ hx;simp at this hpl;omega
 have h1:=gn he hx;obtain⟨c1,c2⟩:=gD hs h1 hok;let vss:List Value:=(parts.toList.map λ(j,x)=>(j,a.eval x)).map (·.2);have hvl:vss.length=len:=by simp[vss];simpa using hpl
 let cells0:Array Value:=(Array.range (len*i.size)).map (z.cells[·%z.cells.size]!);have hc0:cells0.size=len*i.size:=by simp[cells0]
 have hfill:Instr.fill (λj=>some (j*i.size,i.size)) cells0 (parts.toList.map λ(j,x)=>(j,a.eval x))=some (vss.map (·.cells.toList)).flatten.toArray:=by
  have e:=gd (_β:=Unit) parts.toList a.eval (by rw[hidx,hpl]);rw[e];have e3:(parts.toList.map λp=>a.eval p.2)=vss:=by simp[vss]
  rw[e3,kX vss 0 cells0 c1 (by rw[hc0,hvl];simp)];simp[hvl,List.drop_of_length_le,hc0]
 have hn:¬(16777216<len*i.size):=oM;have h00:¬(len*i.size=0):=oM;have hpe:parts.map (λ(j,x)=>(j,a.eval x))=(parts.toList.map λ(j,x)=>(j,a.eval x)).toArray:=by apply Array.toList_inj.mp;simp
 have hrun:(execOp a.eval ⟨dst, .buildSlice T len parts,ty,pos,after,guard⟩).run P w= .ok (.value (.slice (some ⟨w.heap.size,0,none⟩) len len)) (w.alloc (.cells (vss.map (·.cells.toList)).flatten.toArray e)):=by
  have hz':(zeroValue e).run P w= .ok z w:=by simp[zeroValue,typeInfo,hi,hz1]
  have hso:(sizeOf e).run P w= .ok i.size w:=by simp[sizeOf,typeInfo,hi]
  simp only[execOp,Instr.buildSlice,Sem.run_bind,run_underlying ht,Result.andThen_ok,hso,gt_iff_lt,show(2:Nat)^24=16777216 from rfl,if_neg hn,Sem.run_pure,if_neg h00,hz',hpe];have hfill':Instr.fill (λj=>some (j*i.size,i.size)) (Array.map (λx=>z.cells[x%z.cells.size]!) (Array.range (len*i.size))) (parts.toList.map λx=>(x.1,a.eval x.2))=some (vss.map (·.cells.toList)).flatten.toArray:=hfill;rw[hfill'];simp[newRow]
 obtain⟨k1,k2,k3⟩:Ev m φ w (m++ [.tok 0 (.slice (some ⟨w.heap.size,0,none⟩) len len)]) φ (w.alloc (.cells (vss.map (·.cells.toList)).flatten.toArray e))/\SR (m++ [.tok 0 (.slice (some ⟨w.heap.size,0,none⟩) len len)]) φ (st++ [.os e i.size 0 (xs.map AV.cells)]) (w.alloc (.cells (vss.map (·.cells.toList)).flatten.toArray e))/\True:=by
  have hF:=Fz.alloc hs (.cells (vss.map (·.cells.toList)).flatten.toArray e);have hk:∀b,b<w.heap.size->(w.alloc (.cells (vss.map (·.cells.toList)).flatten.toArray e)).heap[b]? =w.heap[b]? :=λb hb=>bz hb;have hnew:∀b,(Cz.tok 0 (.slice (some ⟨w.heap.size,0,none⟩) len len)).has b->w.heap.size<=b:=λb hb=>by simp only[Cz.has,Value.ownBlock,ay] at hb;omega
  have hlen2:(vss.map (·.cells.toList)).flatten.length=len*i.size:=by
   have:=a9 c2;have h2:∀l:List AV,(l.all λx=>x.okS st&&Nat.beq x.cells.length i.size)=true->(l.map AV.cells).flatten.length=l.length*i.size:=by
    intro l;induction l with
    |nil=>simp
    |cons x l ih=>intro h;simp only[List.all_cons,Bool.and_eq_true] at h;have:=nbE h.1.2;simp only[List.map_cons,List.flatten_cons,List.length_append,List.length_cons,ih h.2,Nat.succ_mul];omega
   rw[h2 xs hok,hxl] at this;exact this
  refine⟨Ev.push hs hF hk sM rfl rfl rfl hnew,SR.push hs hF hk sM ?_ hnew,trivial⟩;refine⟨_,(vss.map (·.cells.toList)).flatten,rfl,⟨by rw[hlen2];simp[hxl], .inr ⟨w.heap.size,len,_,by simp[hxl],Nat.zero_le _,heap_alloc_new w _,by simp[hxl],hm,by simpa using hlen2,?_⟩⟩,RAs.mono (Pre.append m _) hF _ _ c2,λf hf=>?_,λb hb=>?_⟩;rw[List.take_of_length_le (by simp only[List.length_map,hxl];simpa using Nat.le_of_eq hlen2)];obtain⟨x,hx1,rfl⟩:=List.mem_map.1 hf;have:=List.all_eq_true.1 hok x hx1;simp only[Bool.and_eq_true] at this;exact nbE this.2;simp only[Value.ownBlock,ay] at hb;exact hs.lt b oM
 exact⟨_,_,hrun,k1,k2,(Below.refl _ _).alloc (Nat.le_refl _) _,λb hb=>by simp only[Value.ownBlock,ay] at hb;omega⟩
theorem rY{T _T' e k by_:Nat}{zs:List Value}{s x:Operand}{id ver:Nat}{es fs:List (List AV)}{xr:AV}{c:Call}(hT:bR P T=some (e,k,by_))(hz:aW P e=some zs)(hzl:zs.length=k)(hk:0<k)
  (hc:c=⟨.builtin .append, #[s,x], #[T,T]⟩)(hs:opv env s=some (.os id ver))(hi:st[id]? =some (.os e k ver es))(hx:opv env x=some xr)(hsrc:Src st xr k fs)(hf1:fs.flatten.all (AV.ok1S st)=true)(hfk:∀f∈fs,f.length=k)
  (h63:es.length+fs.length<=maxLen)(hby:(es.length+fs.length)*by_<=140737488355328):
  Does P env st ⟨dst, .call c,ty,pos,after,guard⟩ (.os id (ver+1)) (st.set id (.os e k (ver+1) (es++fs))):=λm φ a w hsr he=>by
 obtain⟨y,xs,g1,g2,g3,g4,g5,g6⟩:=ie hsr he hs hi;obtain⟨news,n1,n2,n3⟩:=hsrc m φ w _ hsr (bd he hx);obtain⟨v',w',r1,r2,r3,r4⟩:=gc (P:=P) (ty:=ty) hT hz hzl hk g3 n2 (je hsr n1 hf1) n3 h63 hby;have hF:Fz φ w φ w':=λb off cc q1 q2=>⟨q1,by
  have hlt:=cR hsr q1;have hne:some b≠y.ownBlock:=λe=>by have:=g6 b e.symm;omega
  rw[cZ (r3.block b hlt hne)];exact q2⟩
 have hobj:OR (m.set id (.tok (ver+1) v')) φ w' (.os e k (ver+1) (es++fs)) (.tok (ver+1) v'):=by
  have hpre:Pre m (m.set id (.tok (ver+1) v')):=λi d hd=>by
   by_cases hii:i=id;subst hii;rw[g1] at hd;simp only[ay] at hd;subst hd;exact⟨_,by rw[List.getElem?_set_self (dD g1)],eJ _ _ _⟩;exact⟨d,by rw[List.getElem?_set_ne (Ne.symm hii)];exact hd,Cz.le_refl d⟩
  refine⟨v',xs++news,rfl,by rw[List.length_append];exact r2,?_,λf hf=>?_,λb hb=>?_⟩;rw[List.flatten_append];exact ba (RAs.mono hpre hF _ _ g4) (RAs.mono hpre hF _ _ n1);rcases List.mem_append.1 hf with h|h
  exact g5 f h;exact hfk f h;rcases r4 with h|h
  exact g6 b (by rw[<-h];exact hb);rw[h] at hb;simp only[ay] at hb;exact hsr.lt b oM
 obtain⟨k1,k2⟩:=fG (o':= .os e k (ver+1) (es++fs)) (c':= .tok (ver+1) v') (φ':=φ) hsr hi rfl g1 (eJ _ _ _) r3.os r3.tape r3.output r3.size
  (λb hb hn=>⟨r3.block b hb (λe=>hn (by simp[Cz.has,<-e])),rfl⟩) hF (λb hb=>hsr.lt b (Nat.le_trans r3.size hb))
  (λb hb=>by
   rcases r4 with h|h
   exact .inl (by simpa[Cz.has,h] using hb);right;simp only[Cz.has,h,ay] at hb;omega) hobj
 refine⟨v',w',_,φ, .inl ?_,k1,k2,?_⟩;subst hc;simp[execOp,resolve,invoke,builtin,g2,r1];simp only[RA];exact⟨ver+1,v',by rw[List.getElem?_set_self (dD g1)],Nat.le_refl _,λ_=>rfl⟩
end
section
variable{P:Program}{env:Env}{st:List AO}
end
section
variable{P:Program}{env:Env}{st:List AO}{dst:Option Tmp}{ty:TypeId}{pos:String}{after:Array Edge}{guard:Option (Nat×Bool)}
end
section
variable{e:En}{env:Env}{st:List AO}
end
end Go.Sk
namespace Go.Sk
end Go.Sk
