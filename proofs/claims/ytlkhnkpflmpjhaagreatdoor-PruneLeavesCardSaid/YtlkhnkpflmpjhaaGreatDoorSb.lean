/-
  Regions that draw their order, of any kind: each operation is shown alone, over what its predecessors surely have left.
-/
import Derived.Laws.StructEq
import Derived.Laws.Cover3
import Derived.ProofKit
import Derived.SizedLaws
import Derived.Laws.Pointers
import Derived.Laws.Strings3
import Derived.Laws.DeepStrings4
import Derived.Laws.Strings
import Derived.WideKeyRuns
import Derived.Sort.OwnSortedInts
import Derived.Shelf.Slices.CompactI
import Derived.WideLaws
import Derived.RecoverIn
import Derived.Test.YtlkhnkpflmpjhaaGreatDoorSa
set_option linter.all false
namespace Go.Sk
open Go.RowKit (Below)
def FL(base:Env)(L:Nat->Bool):List (Nat×Nat×AV)->Env
 |[]=>base
 |(k,d,r)::rest=>bif L k then(d,r)::FL base L rest else FL base L rest
def c8:List Oper->List AV->Nat->List (Nat×Nat×AV)
 |o::l,r::rs,k=>(match o.dst with|some d=>(k,d,r)::c8 l rs (k+1)|none=>c8 l rs (k+1))
 |_,_,_=> []
theorem bJ(k:Nat)(v:AV)(r:Env)(t:Nat):Env.get ((k,v)::r) t=if t=k then some v else Env.get r t:=by
 conv=>lhs;unfold Env.get
 simp_all
theorem sg{base:Env}{L:Nat->Bool}{k d:Nat}{r:AV}:∀{reg:List (Nat×Nat×AV)},(reg.map (·.2.1)).Nodup->(k,d,r)∈reg->L k=true->(FL base L reg).get d=some r
 |(j,d',r')::reg,hn,hm,hL=>by
  simp only[List.map_cons,List.nodup_cons] at hn;rcases List.mem_cons.1 hm with h|h
  grind [FL,bJ];have hne:d≠d':=λhe=>hn.1 (by subst he;exact List.mem_map.2 ⟨_,h,rfl⟩);have:=sg (base:=base) hn.2 h hL;grind [FL,bJ]
theorem tt{base:Env}{L:Nat->Bool}{t:Nat}:∀{reg:List (Nat×Nat×AV)},(∀k r,(k,t,r)∈reg->L k=false)->(FL base L reg).get t=base.get t
 |[],_=>rfl
 |(j,d',r')::reg,h=>by
  have ih:=tt (base:=base) (L:=L) (t:=t) (reg:=reg) (λk r hm=>h k r (List.mem_cons_of_mem _ hm));grind [FL,bJ]
theorem tr{base:Env}{L L':Nat->Bool}{k t:Nat}:∀{reg:List (Nat×Nat×AV)},(∀j,j≠k->L' j=L j)->(∀r,(k,t,r)∉reg)->(FL base L' reg).get t=(FL base L reg).get t
 |[],_,_=>rfl
 |(j,d',r')::reg,h,hk=>by
  have ih:=tr (base:=base) (reg:=reg) h (λr hr=>hk r (List.mem_cons_of_mem _ hr));unfold FL;by_cases hjk:j=k;grind [bJ];grind [bJ]
theorem nY:∀{l:List Oper}{rs:List AV}{k j d:Nat}{r:AV},(j,d,r)∈c8 l rs k->k<=j/\∃o,l[j - k]? =some o/\o.dst=some d/\rs[j - k]? =some r
 |[],rs,k,j,d,r,h=>by simp[c8] at h
 |o::l,[],k,j,d,r,h=>by simp[c8] at h
 |o::l,r0::rs,k,j,d,r,h=>by
  unfold c8 at h;have key:(j,d,r)∈c8 l rs (k+1)->k<=j/\∃o',(o::l)[j - k]? =some o'/\o'.dst=some d/\(r0::rs)[j - k]? =some r:=λh=>by
   obtain⟨h1,o',h2,h3,h4⟩:=nY h;grind
  grind
theorem kM:∀{l:List Oper}{rs:List AV}{k j d:Nat}{r:AV}{o:Oper},l[j]? =some o->o.dst=some d->rs[j]? =some r->(k+j,d,r)∈c8 l rs k
 |[],rs,k,j,d,r,o,h,_,_=>by simp at h
 |o0::l,[],k,j,d,r,o,_,_,h=>by simp at h
 |o0::l,r0::rs,k,0,d,r,o,h1,h2,h3=>by
  grind [c8]
 |o0::l,r0::rs,k,j+1,d,r,o,h1,h2,h3=>by
  have:=kM (k:=k+1) (by simpa using h1:l[j]? =some o) h2 (by simpa using h3:rs[j]? =some r);grind [c8]
def ym(ops:List Oper)(tc:List (List Nat)):Bool:=
 (List.range ops.length).all λk=>match ops[k]? with
  |none=>false
  |some o=>(o.after.toList.all λe=> !(Region.binds .any e)||Nat.blt e.on k)&&
   (tc.getD k []).all λj=>o.after.toList.any λe=>Region.binds .any e&&(Nat.beq e.on j||(tc.getD e.on []).contains j)
def xB(ops:List Oper)(L:Nat->Bool):Prop:=∀(k:Nat)(o:Oper),ops[k]? =some o->L k=true->∀e∈o.after,Region.binds .any e=true->L e.on=true
theorem nI{ops:List Oper}{tc:List (List Nat)}(hok:ym ops tc=true){L:Nat->Bool}(hd:xB ops L):∀(k:Nat)(o:Oper),ops[k]? =some o->(∀e∈o.after,Region.binds .any e=true->L e.on=true)->∀j∈tc.getD k [],L j=true:=by
 intro k;induction k using Nat.strongRecOn with
 |_ k ih=>
  intro o ho hall j hj;have hk:k<ops.length:=by grind
  have h1:=List.all_eq_true.1 hok k (List.mem_range.2 hk);simp only[ho,Bool.and_eq_true] at h1;have h2:=List.any_eq_true.1 (List.all_eq_true.1 h1.2 j hj);obtain⟨e,he,h3⟩:=h2;simp only[Bool.and_eq_true,Bool.or_eq_true] at h3;have hea:e∈o.after:=by grind
  have hL:=hall e hea h3.1;rcases h3.2 with h4|h4
  grind [nbE];have h5:=List.all_eq_true.1 h1.1 e he;simp only[h3.1,Bool.not_true,Bool.false_or] at h5;have hlt:e.on<k:=by simp_all
  cases hoe:ops[e.on]? with
  |none=>grind
  |some o'=>exact ih e.on hlt o' hoe (λe' he' hb=>hd e.on o' hoe hL e' he' hb) j (by simpa using h4)
def cnt(L:Nat->Bool):List Nat->Nat
 |[]=>0
 |e::es=>bif L e then cnt L es+1 else 0
def eko(l:List Oper)(rs:List AV)(j:Nat):Option (Nat×AV):=match l[j]?,rs[j]? with
 |some o,some r=>o.dst.map λd=>(d,r)
 |_,_=>none
def ekB(base:Env):List Nat->Env
 |x::bk=>(match base.get x with|some v=>(x,v)::ekB base bk|none=>ekB base bk)
 |[]=> []
def ekP(l:List Oper)(rs:List AV)(tail:Env):List Nat->Env
 |j::pk=>(match eko l rs j with|some p=>p::ekP l rs tail pk|none=>ekP l rs tail pk)
 |[]=>tail
def kp(l:List Oper)(rs:List AV)(base:Env)(pk bk:List Nat):Env:=ekP l rs (ekB base bk) pk
def Ob(P:Program)(e:En)(l:List Oper)(rs:List AV)(base:Env)(sts:Nat->List AO)(k:Nat)(o:Oper)(pk bk:List Nat)(c c':Nat):Prop:=
 ∀F:Env,WL P e l.toArray [o] (kp l rs base pk bk++F) (sts c) λenv' st'=>st'=sts c'/\∃pre,env'=pre++(kp l rs base pk bk++F)/\
  (∀t x,pre.get t=some x->o.dst=some t)/\∀d r,o.dst=some d->rs[k]? =some r->pre.get d=some r
def ObC(P:Program)(e:En)(l:List Oper)(rs:List AV)(base:Env)(sts:Nat->List AO)(k:Nat)(o:Oper)(pk bk:List Nat)(up:Bool):List Nat->Prop
 |[]=>True
 |c::cs=>Ob P e l rs base sts k o pk bk c (bif up then c+1 else c)/\ObC P e l rs base sts k o pk bk up cs
def Obs(P:Program)(e:En)(l:List Oper)(rs:List AV)(base:Env)(sts:Nat->List AO)(es:List Nat):Nat->List Oper->List (List Nat×List Nat×List Nat)->Prop
 |k,o::ol,p::ps=>ObC P e l rs base sts k o p.1 p.2.1 (es.contains k) p.2.2/\Obs P e l rs base sts es (k+1) ol ps
 |_,_,_=>True
theorem tp{P e l rs base sts k o pk bk up}:∀{cs:List Nat},ObC P e l rs base sts k o pk bk up cs->∀c∈cs,Ob P e l rs base sts k o pk bk c (bif up then c+1 else c)
 |c::cs,h,c',hc=>by
  rcases List.mem_cons.1 hc with rfl|hc
  exact h.1;exact tp h.2 c' hc
theorem tn{P e l rs base sts es}:∀{ol:List Oper}{ps:List (List Nat×List Nat×List Nat)}{k j:Nat}{o:Oper}{p:List Nat×List Nat×List Nat},Obs P e l rs base sts es k ol ps->ol[j]? =some o->ps[j]? =some p->ObC P e l rs base sts (k+j) o p.1 p.2.1 (es.contains (k+j)) p.2.2
 |o0::ol,p0::ps,k,0,o,p,h,h1,h2=>by
  simp only[List.getElem?_cons_zero,aK] at h1 h2;subst h1;subst h2;exact h.1
 |o0::ol,p0::ps,k,j+1,o,p,h,h1,h2=>by
  have:=tn h.2 (by simpa using h1:ol[j]? =some o) (by simpa using h2:ps[j]? =some p);grind
 |[],_,_,_,_,_,_,h1,_=>by simp at h1
 |_::_,[],_,_,_,_,_,_,h2=>by simp at h2
def jE:List Nat->Bool
 |[]=>true
 |x::l=> !(l.contains x)&&jE l
theorem fZ:∀{l:List Nat},jE l=true->l.Nodup
 |[],_=>List.nodup_nil
 |x::l,h=>by
  simp only[jE,Bool.and_eq_true,Bool.not_eq_true',List.contains_eq_mem,decide_eq_false_iff_not] at h;exact List.nodup_cons.2 ⟨h.1,fZ h.2⟩
def mY(l:List Oper)(tc:List (List Nat))(es:List Nat)(plan:List (List Nat×List Nat×List Nat)):Bool:=
 ym l tc&&jE (l.filterMap (·.dst))&&jE es&&Nat.beq plan.length l.length&&
 ((List.range es.length).all λi=>match es[i]?,es[i+1]? with|some x,some y=>(tc.getD y []).contains x|_,_=>true)&&
 (List.range l.length).all λk=>match plan[k]? with
  |none=>false
  |some (pk,bk,cs)=>(pk.all λj=>(tc.getD k []).contains j)&&(!(es.contains k)||cs.all λc=>es[c]? ==some k)&&
   (bk.all λx=>(List.range l.length).all λj=>match l[j]? with|some o=> !(o.dst==some x)||Nat.beq j k||(tc.getD j []).contains k|none=>true)&&
   (List.range (es.length+1)).all λc=>cs.contains c||(match es[c]? with|some y=>(tc.getD k []).contains y|none=>false)||
    (es.take c).any λy=>Nat.beq y k||(tc.getD y []).contains k
theorem vP{l:List Oper}{rs:List AV}{j t:Nat}{x:AV}(h:eko l rs j=some (t,x)):(j,t,x)∈c8 l rs 0:=by
 unfold eko at h;split at h;rename_i o r h1 h2;cases hd:o.dst with
 |none=>simp[hd] at h
 |some d=>simp only[hd,Option.map_some,aK,Prod.mk.injEq] at h;obtain⟨rfl,rfl⟩:=h;have:=kM (k:=0) h1 hd h2;simpa using this
 cases h
theorem iJ{base:Env}{t:Nat}{x:AV}:∀{bk:List Nat},(ekB base bk).get t=some x->t∈bk/\base.get t=some x
 |y::bk,h=>by
  unfold ekB at h;split at h;rename_i v hv;rw[bJ] at h;split at h;simp_all;exact⟨List.mem_cons_of_mem _ (iJ h).1,(iJ h).2⟩;exact⟨List.mem_cons_of_mem _ (iJ h).1,(iJ h).2⟩
 |[],h=>by simp[ekB,Env.get] at h
theorem pa{l:List Oper}{rs:List AV}{base:Env}{t:Nat}{x:AV}{bk:List Nat}:∀{pk:List Nat},(kp l rs base pk bk).get t=some x->(∃j∈pk,(j,t,x)∈c8 l rs 0)\/(t∈bk/\base.get t=some x)
 |j::pk,h=>by
  unfold kp ekP at h;split at h;rename_i p hp;rw[bJ] at h;split at h;grind [List.mem_cons_self,vP];rcases pa (pk:=pk) h with⟨j',h1,h2⟩|h1
  grind;exact .inr h1;rcases pa (pk:=pk) h with⟨j',h1,h2⟩|h1
  grind;exact .inr h1
 |[],h=> .inr (iJ h)
theorem qD{L:Nat->Bool}:∀{es:List Nat},∀y∈es.take (cnt L es),L y=true
 |[],y,h=>by simp[cnt] at h
 |e::es,y,h=>by
  unfold cnt at h;cases hL:L e with
  |false=>simp[hL] at h
  |true=>
   rw[hL,cdT,List.take_succ_cons] at h;rcases List.mem_cons.1 h with rfl|h
   exact hL;exact qD y h
theorem qF{L:Nat->Bool}:∀{es:List Nat}{y:Nat},es[cnt L es]? =some y->L y=false
 |[],y,h=>by simp[cnt] at h
 |e::es,y,h=>by
  unfold cnt at h;cases hL:L e with
  |false=>simp_all
  |true=>simp only[hL,cdT,List.getElem?_cons_succ] at h;exact qF h
theorem iK{L:Nat->Bool}:∀{es:List Nat},cnt L es<=es.length
 |[]=>Nat.le_refl _
 |e::es=>by unfold cnt;cases L e<;>simp[iK]
theorem oe{L L':Nat->Bool}{k:Nat}(h:∀j,j≠k->L' j=L j):∀{es:List Nat},k∉es->cnt L' es=cnt L es
 |[],_=>rfl
 |e::es,hk=>by
  have h1:e≠k:=by grind
  unfold cnt;rw[h e h1,oe h (λhm=>hk (List.mem_cons_of_mem _ hm))]
theorem qE{L L':Nat->Bool}{k:Nat}(h:∀j,j≠k->L' j=L j)(hk:L k=false)(hk':L' k=true):∀{es:List Nat},es.Nodup->es[cnt L es]? =some k->(∀y,es[cnt L es+1]? =some y->L y=false)->cnt L' es=cnt L es+1
 |[],_,h1,_=>by simp at h1
 |e::es,hn,h1,h2=>by
  obtain⟨n1,n2⟩:=List.nodup_cons.1 hn;cases hL:L e with
  |true=>
   have hek:e≠k:=by grind
   have e1:cnt L (e::es)=cnt L es+1:=by simp[cnt,hL]
   rw[e1] at h1 h2⊢;have:=qE h hk hk' n2 (by simpa using h1) (λy hy=>h2 y (by simpa using hy));grind [cnt]
  |false=>
   have e1:cnt L (e::es)=0:=by simp[cnt,hL]
   rw[e1] at h1 h2⊢;simp only[List.getElem?_cons_zero,aK] at h1;subst h1;have:cnt L' es=0:=by
    cases es with
    |nil=>rfl
    |cons y es=>grind [cnt]
   grind [cnt]
theorem xn{es:List Nat}:∀{L:Nat->Bool},(∀y∈es,L y=true)->cnt L es=es.length:=by
 induction es with
 |nil=>intros;rfl
 |cons e es ih=>grind [cnt]
theorem uj:∀{l:List Bool}{i:Nat},l[i]? =some false->(l.set i true).count false+1=l.count false
 |[],i,h=>by simp at h
 |b::l,0,h=>by simp only[List.getElem?_cons_zero,aK] at h;subst h;simp
 |b::l,i+1,h=>by
  grind
section
variable{P:Program}{e:En}{l:List Oper}{rs:List AV}{base:Env}{sts:Nat->List AO}{es:List Nat}
def At(e:En)(l:List Oper)(rs:List AV)(base:Env)(sts:Nat->List AO)(es:List Nat)(L:Nat->Bool)(a:Act)(w:World):Prop:=
 ∃m φ,Inv e m φ (FL base L (c8 l rs 0)) (sts (cnt L es)) a w
theorem ra{r:Option Nat}{Q':Exit->Act->World->Prop}{k:Nat}{o:Oper}{env:Env}{st:List AO}{R:Env->List AO->Prop}{m φ a w}{K:Act->World->Prop}(hnd:c9 l=true)(ho:l[k]? =some o)(h:WL P e l.toArray [o] env st R)(hi:Inv e m φ env st a w)
  (hK:∀a' w' env' st' m' φ',R env' st'->Inv e m' φ' env' st' a' w'->K a' w'):wpOpIn (EF r) 0 P l.toArray Q' k K a w:=by
 have h1:=h m φ a w hi;have ho':l.toArray[k]? =some o:=by simpa using ho
 unfold wpOpIn;simp only[ho'];unfold eX at h1;have key:∀(a':Act)(w':World),eX P l.toArray (u6 e R) [] a' w'->K a' w':=by rintro a' w' ⟨_,env',st',m',φ',hR,hi'⟩;grind
 have hd:=ga hnd ho;split
 ·rename_i hw;rw[if_pos hw] at h1;rcases h1 with h1|h1
  ·refine Oper.wpIn_mono key (jD hd ?_);unfold Oper.wp at*
   generalize(execOp a.eval o).run P w=rr at*
   cases rr with
   |ok n w'=>
    cases n<;>simp only[Oper.upon] at h1⊢;case value v=>exact h1
    case skip=>exact h1
    case defer d=>exact h1
    case enter g args=>
     refine Calls.mono h1 λen w'' he=>?_;cases en with
     |returned u=>exact he
     |panicked c=>exact absurd he.1 sM
     |outgrown=>obtain⟨_,_,h0⟩:=he;exact absurd h0.1 sM
    grind
   |halt x w'=>cases x<;>simp only[Oper.upon] at h1⊢;exact absurd h1.1 sM
  exact Oper.wpIn_mono key (lJ hd h1)
 rename_i hw;rw[if_neg hw] at h1;exact⟨λ_ _=>trivial,key _ _ h1⟩
theorem kL:∀{l:List Oper}{rs:List AV}{k:Nat},(l.filterMap (·.dst)).Nodup->((c8 l rs k).map (·.2.1)).Nodup/\∀d∈(c8 l rs k).map (·.2.1),d∈l.filterMap (·.dst)
 |[],rs,k,_=>by simp[c8]
 |o::l,[],k,_=>by simp[c8]
 |o::l,r::rs,k,h=>by
  unfold c8;cases hd:o.dst with
  |none=>simp only[List.filterMap_cons,hd] at h⊢;exact kL h
  |some d=>simp only[List.filterMap_cons,hd] at h⊢;obtain⟨h1,h2⟩:=List.nodup_cons.1 h;obtain⟨h3,h4⟩:=kL (rs:=rs) (k:=k+1) h2;grind
theorem wg{Q':Exit->Act->World->Prop}(hnf:c9 l=true){tc:List (List Nat)}{plan:List (List Nat×List Nat×List Nat)}(hok:mY l tc es plan=true)(hrs:rs.length=l.length)
  {L L':Nat->Bool}{k:Nat}{o:Oper}(hobs:∀p,plan[k]? =some p->ObC P e l rs base sts (0+k) o p.1 p.2.1 (es.contains (0+k)) p.2.2)(ho:l[k]? =some o)(hd:xB l L)(hLn:∀y,L y=true->y<l.length)(hk:L k=false)(hpre:∀e∈o.after,Region.binds .any e=true->L e.on=true)
  (hL:∀j,j≠k->L' j=L j)(hk':L' k=true){a:Act}{w:World}(hat:At e l rs base sts es L a w):
  wpOpIn (EF e.rd) 0 P l.toArray Q' k (λa' w'=>At e l rs base sts es L' a' w') a w:=by
 obtain⟨m,φ,hi⟩:=hat
 simp only[mY,Bool.and_eq_true] at hok;obtain⟨⟨⟨⟨⟨htc,hnd⟩,hne⟩,hpl⟩,hch⟩,hall⟩:=hok;have hkl:k<l.length:=(giS.1 ho).1;have h1:=List.all_eq_true.1 hall k (List.mem_range.2 hkl);cases hp:plan[k]? with
 |none=>simp[hp] at h1
 |some p=>
  obtain⟨pk,bk,cs⟩:=p;simp only[hp,Bool.and_eq_true] at h1;obtain⟨⟨⟨hpk,hself⟩,hbk⟩,hcs⟩:=h1;have hobk:=hobs _ hp;rw[Nat.zero_add] at hobk;have htck:=nI htc hd k o ho hpre;have htcl:∀(y:Nat),L y=true->k∉tc.getD y []:=λy hy hm=>by
   have hyl:=hLn y hy;have hoy:l[y]? =some l[y]:=geG hyl;have:=nI htc hd y _ hoy (λe' he' hb=>hd y _ hoy hy e' he' hb) k hm;rw[hk] at this;cases this
  have hc:cnt L es∈cs:=by
   have h2:=List.all_eq_true.1 hcs (cnt L es) (List.mem_range.2 (Nat.lt_succ_of_le iK));simp only[Bool.or_eq_true] at h2;rcases h2 with(h2|h2)|h2
   simpa using h2;cases hy:es[cnt L es]? with
   |none=>simp[hy] at h2
   |some y=>simp only[hy] at h2;have:=htck y (by simpa using h2);rw[qF hy] at this;cases this
   obtain⟨y,hy,h3⟩:=List.any_eq_true.1 h2;have hLy:=qD y hy;simp only[Bool.or_eq_true] at h3;rcases h3 with h3|h3
   rw[nbE h3,hk] at hLy;cases hLy;exact absurd (by simpa using h3) (htcl y hLy)
  have hob:=tp hobk _ hc;have hcnt:cnt L' es=bif es.contains k then cnt L es+1 else cnt L es:=by
   cases hmem:es.contains k with
   |false=>exact oe hL (by simpa using hmem)
   |true=>
    rw[hmem] at hself;simp only[Bool.not_true,Bool.false_or] at hself;have h4:=List.all_eq_true.1 hself _ hc;have h5:es[cnt L es]? =some k:=by simpa using h4
    refine qE hL hk hk' (fZ hne) h5 (λy hy=>?_);have hlt:cnt L es<es.length:=(giS.1 h5).1;have h6:=List.all_eq_true.1 hch (cnt L es) (List.mem_range.2 hlt);simp only[h5,hy] at h6;cases hLy:L y with
    |false=>rfl
    |true=>exact absurd (by simpa using h6) (htcl y hLy)
  have hreg:=kL (rs:=rs) (k:=0) (fZ hnd);have regk:∀(j t:Nat)(x:AV),(j,t,x)∈c8 l rs 0->∃o',l[j]? =some o'/\o'.dst=some t/\rs[j]? =some x:=λj t x hm=>by
   obtain⟨_,o',h1,h2,h3⟩:=nY hm;exact⟨o',by simpa using h1,h2,by simpa using h3⟩
  have hek:∀t x,(kp l rs base pk bk).get t=some x->(FL base L (c8 l rs 0)).get t=some x:=λt x hx=>by
   rcases pa hx with⟨j,hj,hm⟩|⟨hm,hb⟩
   exact sg hreg.1 hm (htck j (by simpa using List.all_eq_true.1 hpk j hj));rw[tt];exact hb;intro j r hjm;obtain⟨o',h2,h3,_⟩:=regk j t r hjm;have h4:=List.all_eq_true.1 (List.all_eq_true.1 hbk t hm) j (List.mem_range.2 (giS.1 h2).1);simp only[h2,h3,beq_self_eq_true,Bool.not_true,Bool.false_or,Bool.or_eq_true] at h4;rcases h4 with h4|h4
   rw[nbE h4];exact hk;cases hLj:L j with
   |false=>rfl
   |true=>exact absurd (by simpa using h4) (htcl j hLj)
  have hsub:Sub (kp l rs base pk bk++FL base L (c8 l rs 0)) (FL base L (c8 l rs 0)):=λt x hx=>by
   rw[Env.get_append] at hx;cases hg:(kp l rs base pk bk).get t with
   |some y=>rw[hg] at hx;simp only[aK] at hx;subst hx;exact⟨y,hek t y hg,Le.refl y⟩
   |none=>rw[hg] at hx;exact⟨x,hx,Le.refl x⟩
  refine ra hnf ho (hob (FL base L (c8 l rs 0))) (hi.sub hsub) ?_;rintro a' w' env' st' m' φ' ⟨rfl,pre,rfl,hp1,hp2⟩ hi';refine⟨m',φ',?_⟩;rw[hcnt];refine hi'.sub (λt x hx=>?_);rw[Env.get_append,Env.get_append];cases hpt:pre.get t with
  |some y=>
   have hdt:=hp1 t y hpt;cases hrk:rs[k]? with
   |none=>exact absurd (List.getElem?_eq_none_iff.1 hrk) oM
   |some r=>have h2:=hp2 t r hdt hrk;rw[hpt] at h2;simp only[aK] at h2;subst h2;have h3:(FL base L' (c8 l rs 0)).get t=some y:=sg hreg.1 (by simpa using kM (k:=0) ho hdt hrk) hk';rw[h3] at hx;simp only[aK] at hx;subst hx;exact⟨y,rfl,Le.refl y⟩
  |none=>
   have h3:(FL base L' (c8 l rs 0)).get t=(FL base L (c8 l rs 0)).get t:=tr hL (λr hr=>by
    obtain⟨o',h2,h3,h4⟩:=regk k t r hr;rw[ho] at h2;simp only[aK] at h2;subst h2;have:=hp2 t r h3 h4;rw[hpt] at this;cases this)
   rw[h3] at hx;cases hg:(kp l rs base pk bk).get t with
   |some y=>have:=hek t y hg;rw[hx] at this;simp only[aK] at this;subst this;exact⟨x,rfl,Le.refl x⟩
   |none=>exact⟨x,hx,Le.refl x⟩
def Lof(listed:Array Bool)(k:Nat):Bool:=listed.getD k false
theorem xu(hnf:c9 l=true){tc:List (List Nat)}{plan:List (List Nat×List Nat×List Nat)}{Q:Exit->Act->World->Prop}(hok:mY l tc es plan=true)(hrs:rs.length=l.length)(hobs:Obs P e l rs base sts es 0 l plan)
  (hQ:∀a w,At e l rs base sts es (λk=>Nat.blt k l.length) a w->Q .normal a w):
  ∀(f:Nat)(listed:Array Bool)(a:Act)(w:World),listed.size=l.length->xB l (Lof listed)->listed.toList.count false<=f->At e l rs base sts es (Lof listed) a w->wpAnyIn (EF e.rd) 0 P .any l.toArray Q f listed a w:=by
 have htc:ym l tc=true:=by simp only[mY,Bool.and_eq_true] at hok;exact hok.1.1.1.1.1
 have rdy:∀(listed:Array Bool)(i:Nat),listed.size=l.length->i∈Region.ready .any l.toArray listed->∃o,l[i]? =some o/\Lof listed i=false/\listed[i]? =some false/\∀e∈o.after,Region.binds .any e=true->Lof listed e.on=true:=by
  intro listed i hsz hi;obtain⟨h0,o,ho,hall⟩:=mem_ready.1 hi;have hil:i<listed.size:=by
   rcases Nat.lt_or_ge i listed.size with h|h
   exact h;simp[Array.getD,Nat.not_lt.2 h] at h0
  have h1:listed[i]? =some false:=by rw[Array.getElem?_eq_getElem hil];simp[Array.getD,hil] at h0;rw[h0]
  exact⟨o,by simpa using ho,by simp[Lof,Array.getD_eq_getD_getElem?,h1],h1,λe he hb=>hall e he hb⟩
 have full:∀(listed:Array Bool),listed.size=l.length->Region.ready .any l.toArray listed=[]->Lof listed=λk=>Nat.blt k l.length:=by
  intro listed hsz hr;have key:∀k,k<l.length->Lof listed k=true:=by
   intro k;induction k using Nat.strongRecOn with
   |_ k ih=>
    intro hk;cases hLk:Lof listed k with
    |true=>rfl
    |false=>
     exfalso;have hok':l[k]? =some l[k]:=geG hk;have:k∈Region.ready .any l.toArray listed:=by
      refine mem_ready.2 ⟨?_,l[k],by simp[hk],λe he hb=>?_⟩;have hks:k<listed.size:=oM;simp only[Lof,Array.getD,hks,dif_pos] at hLk⊢;exact hLk;have h1:=List.all_eq_true.1 htc k (List.mem_range.2 hk);simp only[hok',Bool.and_eq_true] at h1;have h2:=List.all_eq_true.1 h1.1 e (Array.mem_toList_iff.2 he);simp only[hb,Bool.not_true,Bool.false_or] at h2;have hlt:e.on<k:=by simpa[Nat.blt_eq] using h2
      exact ih e.on hlt oM
     rw[hr] at this;cases this
  funext k;rcases Nat.lt_or_ge k l.length with h|h
  rw[key k h];simp[Nat.blt_eq,h];have:Lof listed k=false:=by simp[Lof,Array.getD,Nat.not_lt.2 (by omega:listed.size<=k)]
  rw[this];cases hb:Nat.blt k l.length with
  |false=>rfl
  |true=>
    have:k<l.length:=by simpa[Nat.blt_eq] using hb
    omega
 intro f;induction f with
 |zero=>
  intro listed a w hsz hdn hcn hat
  have hr:Region.ready .any l.toArray listed=[]:=by
   cases hr:Region.ready .any l.toArray listed with
   |nil=>rfl
   |cons i r=>obtain⟨o,_,_,h1,_⟩:=rdy listed i hsz (by rw[hr];exact List.mem_cons_self);have:false∈listed.toList:=List.mem_of_getElem? (i:=i) (by simpa using h1);have:=List.count_pos_iff.2 this;omega
  exact⟨hr,hQ a w (full listed hsz hr▸hat)⟩
 |succ f ih=>
  intro listed a w hsz hdn hcn hat
  refine⟨λhr=>hQ a w (full listed hsz hr▸hat),λi hi=>?_⟩;obtain⟨o,ho,hLi,hli,hpre⟩:=rdy listed i hsz hi;have hil:i<listed.size:=(Array.getElem?_eq_some_iff.1 hli).1;have hother:∀j,j≠i->Lof (listed.setIfInBounds i true) j=Lof listed j:=λj hj=>by
   simp only[Lof,Array.getD_eq_getD_getElem?,Array.getElem?_setIfInBounds_ne (Ne.symm hj)]
  have hself:Lof (listed.setIfInBounds i true) i=true:=by simp[Lof,Array.getD_eq_getD_getElem?,hil]
  have hstep:=wg (Q':=Q) hnf (L':=Lof (listed.setIfInBounds i true)) hok hrs (λp hp=>tn hobs ho hp) ho hdn (λy hy=>by
   rcases Nat.lt_or_ge y l.length with h|h
   exact h;simp[Lof,Array.getD,Nat.not_lt.2 (by omega:listed.size<=y)] at hy) hLi hpre hother hself hat
  refine wpOpIn_mono (λa' w' hat'=>ih _ a' w' (by simpa using hsz) ?_ ?_ hat') hstep;intro k ok hk hLk e he hb;by_cases hki:k=i;subst hki;rw[ho] at hk;simp only[aK] at hk;subst hk;have:=hpre e he hb;by_cases hei:e.on=k;rw[hei];exact hself;rw[hother _ hei];exact this;rw[hother k hki] at hLk;have:=hdn k ok hk hLk e he hb;by_cases hei:e.on=i;rw[hei];exact hself;rw[hother _ hei];exact this;have:=uj (l:=listed.toList) (i:=i) (by simpa using hli);rw[Array.toList_setIfInBounds];omega
theorem nq{k:Ko}{env:Env}{st:List AO}{id:Nat}(rs:List AV)(tc:List (List Nat))(es:List Nat)(sts:Nat->List AO)(plan:List (List Nat×List Nat×List Nat))(hm:P.follows .mixedOrders=true)
  (hok:mY l tc es plan=true)(hrs:Nat.beq rs.length l.length=true)(hes:es.all (λy=>Nat.blt y l.length)=true)(hst:sts 0=st)(hobs:Obs P e l rs env sts es 0 l plan)
  (h:WE P e .normal k (FL env (λk=>Nat.blt k l.length) (c8 l rs 0)) (sts es.length))(hnf:c9 l=true:=by kernel_rfl):WC P e (.region id l.toArray true) k env st:=λm φ a w hi=>by
 have hQ:∀a' w',At e l rs env sts es (λk=>Nat.blt k l.length) a' w'->k.den P e .normal a' w':=λa' w' ⟨m',φ',hi'⟩=>by
  rw[xn λy hy=>List.all_eq_true.1 hes y hy] at hi';exact h m' φ' a' w' hi'
 have hz:∀j,Lof (Array.replicate l.toArray.size false) j=false:=λj=>by simp[Lof,Array.getD]
 have hdn:xB l (Lof (Array.replicate l.toArray.size false)):=λk o _ hL=>by rw[hz] at hL;cases hL
 have hat:At e l rs env sts es (Lof (Array.replicate l.toArray.size false)) a { w with drawn:=w.drawn+1 }:=by
  have hc:cnt (Lof (Array.replicate l.toArray.size false)) es=0:=by
   cases es with
   |nil=>rfl
   |cons y es=>grind [cnt]
  have hf:∀reg:List (Nat×Nat×AV),FL env (Lof (Array.replicate l.toArray.size false)) reg=env:=by
   intro reg;induction reg with
   |nil=>rfl
   |cons p reg ih=>grind [FL]
  refine⟨m,φ,?_⟩;rw[hc,hf,hst];exact hi.below ((Below.refl _ _).drew) (hi.env.mono (Pre.refl m) (Fz.refl φ w)) hi.sz rfl
 grind [wpIn_region_any,xu,nbE]
theorem m5{ops:Array Oper}{env:Env}{st' stc:List AO}{o:Oper}{d:Nat}{r:AV}{k:Nat}(hd:o.dst=some d)(hr:rs[k]? =some r)(hst:st'=stc):
  WL P e ops [] ((d,r)::env) st' (λenv' st''=>st''=stc/\∃pre,env'=pre++env/\(∀t x,pre.get t=some x->o.dst=some t)/\∀d' r',o.dst=some d'->rs[k]? =some r'->pre.get d'=some r'):=
 WL.nil ⟨hst,[(d,r)],rfl,λt x hx=>by
  rw[bJ] at hx;split at hx;rename_i h;rw[h];exact hd;simp[Env.get] at hx,λd' r' hd' hr'=>by
  rw[hd] at hd';rw[hr] at hr';simp only[aK] at hd' hr';subst hd';subst hr';simp[bJ]⟩
theorem wj{ops:Array Oper}{env:Env}{st' stc:List AO}{o:Oper}{d:Nat}{r r0:AV}{k:Nat}(hd:o.dst=some d)(hr:rs[k]? =some r)(hst:st'=stc):
  WL P e ops [] ((d,r)::(d,r0)::env) st' (λenv' st''=>st''=stc/\∃pre,env'=pre++env/\(∀t x,pre.get t=some x->o.dst=some t)/\∀d' r',o.dst=some d'->rs[k]? =some r'->pre.get d'=some r'):=
 WL.nil ⟨hst,[(d,r),(d,r0)],rfl,λt x hx=>by
  rw[bJ,bJ] at hx;by_cases h:t=d;rw[h];exact hd;simp[h,Env.get] at hx,λd' r' hd' hr'=>by
  rw[hd] at hd';rw[hr] at hr';simp only[aK] at hd' hr';subst hd';subst hr';simp[bJ]⟩
theorem aF{ops:Array Oper}{env:Env}{st' stc:List AO}{o:Oper}{k:Nat}(hd:o.dst=none)(hst:st'=stc):
  WL P e ops [] env st' (λenv' st''=>st''=stc/\∃pre,env'=pre++env/\(∀t x,pre.get t=some x->o.dst=some t)/\∀d' r',o.dst=some d'->rs[k]? =some r'->pre.get d'=some r'):=by simp_all [WL.nil,Env.get]
end
end Go.Sk
namespace Go.Sk
open Go.RowKit (Below)
section
variable{P:Program}{e:En}{ops:Array Oper}{l rest:List Oper}{env:Env}{st:List AO}{R:Env->List AO->Prop}{K:Ko}
theorem kA{m φ w}:∀{xs:List AV}{vs:List Value}{i:Nat}{y:AV}{v:Value},RAs m φ w xs vs->vs[i]? =some v->RA m φ w y v->RAs m φ w (xs.set i y) vs
 |[],vs,i,y,v,h,hi,hy=>by simp only[RAs] at h;subst h;simp at hi
 |p::xs,vs,i,y,v,h,hi,hy=>by
  obtain⟨c,cs,rfl,h1,h2⟩:=h;cases i with
  |zero=>grind [bp]
  |succ i=>exact bp h1 (kA h2 (by simpa using hi) hy)
theorem WC.nil_cell{c:Code}(id off T k:Nat){T':TypeId}{cs:List AV}(hs:st[id]? =some (.row T' cs))(hc:cs[off]? =some (.d (.v (.slice none 0 0))))(h:WC P e c K env ((st++ [AO.os T k 0 []]).set id (.row T' (cs.set off (.os st.length 0))))):WC P e c K env st:=λ_m φ a w hi=>
 let ⟨m',hi'⟩:=hi.nil_cell (T:=T) (k:=k) hs hc
 h m' φ a w hi'
end
end Go.Sk
namespace Go.Sk
open Go.RowKit (Below)
def iY(env:Env)(id ver:Nat):List Nat->Prop
 |[]=>True
 |t::ts=>env.get t=some (.os id ver)/\iY env id ver ts
def dK(x:AV):List (Nat×Nat)->List AO->List AO
 |[],st=>st
 |(i,off)::r,st=>dK x r (match st[i]? with|some (.row T cs)=>st.set i (.row T (cs.set off x))|_=>st)
def gd(st:List AO)(id ver:Nat)(x:AV):List (Nat×Nat)->Prop
 |[]=>True
 |(i,off)::r=>∃T cs,st[i]? =some (.row T cs)/\cs[off]? =some (.os id ver)/\gd (st.set i (.row T (cs.set off x))) id ver x r
theorem mA{m φ w}{id ver:Nat}{y:Value}{x:AV}(hm:m[id]? =some (.tok ver y))(hx:RA m φ w x y):∀(l:List (Nat×Nat))(st:List AO),SR m φ st w->gd st id ver x l->SR m φ (dK x l st) w
 |[],st,h,_=>h
 |(i,off)::r,st,h,hc=>by
  obtain⟨T,cs,h1,h2,h3⟩:=hc;simp only[dK,h1];refine mA hm hx r _ ?_ h3;refine h.alter (o:= .row T cs) h1 rfl ?_;rintro c hc2 ⟨b,rfl,q2,vs,q3,q4⟩;obtain⟨v',p1,p2⟩:=cP q4 h2;obtain⟨v0,y0,k1,k2,k3⟩:=p2;rw[hm] at k1;obtain⟨rfl,rfl⟩:=k1;have:=k3 rfl;subst this;exact⟨b,rfl,q2,vs,q3,kA q4 p1 hx⟩
section
variable{P:Program}{e:En}{ops:Array Oper}{l rest:List Oper}{env:Env}{st:List AO}{R:Env->List AO->Prop}{K:Ko}
theorem Inv.freezeX{m φ a w}{id ver T k:Nat}{ds:List (List D)}(ts:List Nat)(cl:List (Nat×Nat))(hi:Inv e m φ env st a w)(hs:st[id]? =some (.os T k ver (ds.map λe=>e.map AV.d)))
  (ht:iY env id ver ts)(hc:gd (st.set id .dead) id ver (.d (.sl ds)) cl):
  ∃φ',Inv e m φ' (ts.map (λt=>(t, .d (.sl ds)))++env) (dK (.d (.sl ds)) cl (st.set id .dead)) a w:=by
 obtain⟨c,hcm⟩:∃c,m[id]? =some c:=by
  have:id<m.length:=by rw[hi.sr.len];exact(giS.1 hs).1
  exact⟨_,geG this⟩
 obtain⟨y,xs,rfl,_⟩:=hi.sr.obj id _ _ hs hcm;obtain⟨φ',f1,f2,f3⟩:=n8 hi.sr hs hcm;have h3:=hi.go f1 f2;refine⟨φ',mA hcm (by simpa[RA] using f3) cl _ h3.sr hc,h3.ev,?_,h3.sz,h3.df⟩;clear hc;refine⟨?_,h3.env.gl⟩;induction ts with
 |nil=>exact h3.env.get
 |cons t ts ih=>
  intro s x hx;simp only[List.map_cons,List.cons_append] at hx;unfold Env.get at hx;cases hb:Nat.beq s t with
  |true=>rw[hb] at hx;simp only[cdT,aK] at hx;subst hx;have:s=t:=nbE hb;subst this;obtain⟨v,g1,g2⟩:=hi.env s _ ht.1;grind [RA]
  |false=>rw[hb] at hx;exact ih ht.2 s x hx
theorem WC.freezeX{c:Code}(ts:List Nat)(cl:List (Nat×Nat))(id:Nat){ver T k:Nat}(ds:List (List D)){es:List (List AV)}(hs:st[id]? =some (.os T k ver es))(hes:es=ds.map λe=>e.map AV.d)(ht:iY env id ver ts)(hc:gd (st.set id .dead) id ver (.d (.sl ds)) cl)
  (h:WC P e c K (ts.map (λt=>(t, .d (.sl ds)))++env) (dK (.d (.sl ds)) cl (st.set id .dead))):WC P e c K env st:=λm φ a w hi=>by
 subst hes;obtain⟨φ',hi'⟩:=hi.freezeX ts cl hs ht hc;exact h m φ' a w hi'
theorem WL.freezeX(ts:List Nat)(cl:List (Nat×Nat))(id:Nat){ver T k:Nat}(ds:List (List D)){es:List (List AV)}(hs:st[id]? =some (.os T k ver es))(hes:es=ds.map λe=>e.map AV.d)(ht:iY env id ver ts)(hc:gd (st.set id .dead) id ver (.d (.sl ds)) cl)
  (h:WL P e ops l (ts.map (λt=>(t, .d (.sl ds)))++env) (dK (.d (.sl ds)) cl (st.set id .dead)) R):WL P e ops l env st R:=λm φ a w hi=>by
 subst hes;obtain⟨φ',hi'⟩:=hi.freezeX ts cl hs ht hc;exact h m φ' a w hi'
theorem WE.freezeX{x:Exit}(ts:List Nat)(cl:List (Nat×Nat))(id:Nat){ver T k:Nat}(ds:List (List D)){es:List (List AV)}(hs:st[id]? =some (.os T k ver es))(hes:es=ds.map λe=>e.map AV.d)(ht:iY env id ver ts)(hc:gd (st.set id .dead) id ver (.d (.sl ds)) cl)
  (h:WE P e x K (ts.map (λt=>(t, .d (.sl ds)))++env) (dK (.d (.sl ds)) cl (st.set id .dead))):WE P e x K env st:=λm φ a w hi=>by
 subst hes;obtain⟨φ',hi'⟩:=hi.freezeX ts cl hs ht hc;exact h m φ' a w hi'
end
def nC(b:Nat)(n:Int):Bool:=decide (0<=n)&&decide ((b:Int)*n<=281474976710656)&&decide (n<=maxLen)
section
variable{P:Program}{env:Env}{st:List AO}{dst:Option Tmp}{ty:TypeId}{pos:String}{after:Array Edge}{guard:Option (Nat×Bool)}
theorem iA(z:Array Value):∀n:Nat,0<z.size->(madeCells z (n*z.size)).toList=(List.replicate n z.toList).flatten
 |0,_=>by simp[madeCells]
 |n+1,hz=>by
  apply List.ext_getElem?;intro j;have ih:=congrArg (λl=>l[j - z.size]?) (iA z n hz);simp only[madeCells,Array.toList_map,Array.toList_range,List.getElem?_map] at ih⊢;rw[List.replicate_succ,List.flatten_cons];by_cases hj:j<z.size;grind [Nat.mod_eq_of_lt];rw[List.getElem?_append_right (by simpa using Nat.le_of_not_lt hj)];simp only[Array.length_toList];rw[<-ih];by_cases hj2:j<(n+1)*z.size;grind [Nat.mod_eq_sub_mod];grind
theorem gb{T e k by_:Nat}{kl kc:IntKind}{n:Int}{x y:Operand}{zs:List Value}(hT:c3 P T=some (e,k,by_))(hz:bq P e=some zs)(hzl:zs.length=k)(hk:0<k)
  (hx:opv env x=some (.d (.v (.int kl n))))(hy:opv env y=some (.d (.v (.int kc n))))(hok:nC by_ n=true):
  NewOs P env st ⟨dst, .makeSlice T x y,ty,pos,after,guard⟩ e k (List.replicate n.toNat (zs.map λz=> .d (.v z))):=λm φ a w hs he=>by
 obtain⟨i,ht,hi,rfl,rfl⟩:=fK hT;obtain⟨z,hz1,hz2⟩:=fS hz hi;simp only[nC,Bool.and_eq_true,decide_eq_true_eq] at hok;obtain⟨⟨k0,k1⟩,k2⟩:=hok;have hr:=run_make (P:=P) w T e i z ht hi hz1 kl kc n n k0 (Int.le_refl _) k1 (by simp only[maxLen] at k2;omega);have hzs:z.cells.size=i.size:=by simp_all
 have hfl:(madeCells z.cells (n.toNat*i.size)).toList=(List.replicate n.toNat zs).flatten:=by have:=iA z.cells n.toNat oM;grind
 have hF:=Fz.alloc hs (.cells (madeCells z.cells (n.toNat*i.size)) e);have hkk:∀b,b<w.heap.size->(w.alloc (.cells (madeCells z.cells (n.toNat*i.size)) e)).heap[b]? =w.heap[b]? :=λb hb=>bX hb;have hnew:∀b,(Cz.tok 0 (.slice (some ⟨w.heap.size,0,none⟩) n.toNat n.toNat)).has b->w.heap.size<=b:=by grind [Cz.has,Value.ownBlock]
 refine⟨_,_,by simp only[execOp,bt he hx,bt he hy];rw[Sem.run_bind,hr];rfl,Ev.push hs hF hkk sM rfl rfl rfl hnew,SR.push hs hF hkk sM ?_ hnew,(Below.refl _ _).alloc (Nat.le_refl _) _,λb hb=>by simp only[Value.ownBlock,aK] at hb;omega⟩;have hl2:(List.replicate n.toNat zs).flatten.length=n.toNat*i.size:=by simp_all
 have hras:∀j:Nat,RAs (m++ [Cz.tok 0 (.slice (some ⟨w.heap.size,0,none⟩) n.toNat n.toNat)]) φ (w.alloc (.cells (madeCells z.cells (n.toNat*i.size)) e)) (List.replicate j (zs.map λz=>AV.d (.v z))).flatten (List.replicate j zs).flatten:=by
  intro j;induction j with
  |zero=>exact cD
  |succ j ih=>grind [ba,eP]
 refine⟨_,(List.replicate n.toNat zs).flatten,rfl,⟨by rw[hl2];simp, .inr ⟨w.heap.size,n.toNat,_,sM,Nat.zero_le _,heap_alloc_new w _,sM,oM,size_madeCells _ _,?_⟩⟩,hras _,λf hf=>?_,λb hb=>?_⟩;grind;simp_all;simp only[Value.ownBlock,aK] at hb;exact hs.lt b oM
theorem NewOs.cast{o:Oper}{T k:Nat}{es es':List (List AV)}(h:NewOs P env st o T k es)(he:es=es'):NewOs P env st o T k es':=he▸h
def ELes:List (List AV)->List (List AV)->Prop
 |[],[]=>True
 |x::xs,y::ys=>Les x y/\ELes xs ys
 |_,_=>False
theorem ELes.len:∀{xs ys:List (List AV)},ELes xs ys->xs.length=ys.length
 |[],[],_=>rfl
 |x::xs,y::ys,h=>by simp[ELes.len h.2]
 |[],_::_,h=>h.elim
 |_::_,[],h=>h.elim
theorem Les.len:∀{xs ys:List AV},Les xs ys->xs.length=ys.length
 |[],[],_=>rfl
 |x::xs,y::ys,h=>by simp[Les.len h.2]
 |[],_::_,h=>h.elim
 |_::_,[],h=>h.elim
theorem Les.append:∀{xs ys us vs:List AV},Les xs ys->Les us vs->Les (xs++us) (ys++vs)
 |[],[],_,_,_,k=>k
 |_x::_xs,_y::_ys,_,_,h,k=>⟨h.1,Les.append h.2 k⟩
 |[],_::_,_,_,h,_=>h.elim
 |_::_,[],_,_,h,_=>h.elim
theorem ELes.flat:∀{xs ys:List (List AV)},ELes xs ys->Les xs.flatten ys.flatten
 |[],[],_=>trivial
 |_x::_xs,_y::_ys,h=>Les.append h.1 (ELes.flat h.2)
 |[],_::_,h=>h.elim
 |_::_,[],h=>h.elim
theorem ELes.lens{k:Nat}:∀{xs ys:List (List AV)},ELes xs ys->(∀e∈xs,e.length=k)->∀e∈ys,e.length=k
 |[],[],_,_=>λe he=>by simp at he
 |x::xs,y::ys,h,hk=>λe he=>by
  rcases List.mem_cons.1 he with rfl|he
  rw[<-Les.len h.1];exact hk x sM;exact ELes.lens h.2 (λe he=>hk e (by simp[he])) e he
 |[],_::_,h,_=>h.elim
 |_::_,[],h,_=>h.elim
theorem NewOs.weak{o:Oper}{T k:Nat}{es es':List (List AV)}(h:NewOs P env st o T k es)(he:ELes es es'):NewOs P env st o T k es':=λm φ a w hs hE=>by
 obtain⟨v,w',h1,h2,h3,h4⟩:=h m φ a w hs hE;refine⟨v,w',h1,h2,?_,h4⟩;have:=h3.alter (id:=st.length) (o:= .os T k 0 es) (o':= .os T k 0 es') sM rfl (λc _=>?_);simpa using this;rintro⟨y,xs,r1,r2,r3,r4,r5⟩;exact⟨y,xs,r1,by rw[<-he.len];exact r2,(Les.ras he.flat) r3,he.lens r4,r5⟩
theorem fF{α:Type}{R:α->List D}{n:Nat}{z:α}{zs:List Value}(h:aS R z=zs.map λz=> .d (.v z)):List.replicate n (zs.map λz=>AV.d (.v z))=(List.replicate n z).map (aS R):=by rw[List.map_replicate,h]
end
end Go.Sk
namespace Go.Sk
open Go.RowKit (Below)
theorem uR{m φ st w}{id:Nat}{T k ver b len cap:Nat}{es es':List (List AV)}{vs:List Value}(hs:SR m φ st w)(hi:st[id]? =some (.os T k ver es))(hb:m[id]? =some (.tok ver (.slice (some ⟨b,0,none⟩) len cap)))
  (h:RAs m φ w es'.flatten vs)(hl:es'.length=es.length)(hk:∀e∈es',e.length=k)(cur:Array Value)(hcur:w.heap[b]? =some (.cells cur T (0,0)))(new:Array Value)(hsz:new.size=cur.size)(htk:new.toList.take (es.length*k)=vs):
  Ev m φ w m φ (w.setRow b new)/\SR m φ (st.set id (.os T k ver es')) (w.setRow b new):=by
 obtain⟨y,xs,e1,g1,g2,g3,g4⟩:=hs.obj id _ _ hi hb;simp only[Cz.tok.injEq,true_and] at e1;subst e1;have h0:φ b=0:=g4 b rfl;have hF:Fz φ w φ (w.setRow b new):=λb2 off c q1 q2=>⟨q1,by
  have hne:b2≠b:=λe=>by subst e;omega
  rw[bx (cw hne)];exact q2⟩
 have hsize:(w.setRow b new).heap.size=w.heap.size:=size_setRow w b _;refine⟨⟨Pre.refl m,λ_ h=> .inl h,rfl,rfl,rfl,by rw[hsize];exact Nat.le_refl _,λb2 hb2 hn=>⟨cw (λe=>hn ⟨id,_,hb,by rw[e];rfl⟩),rfl⟩,hF⟩,⟨by simp[hs.len],λi o c q1 q2=>?_,λb2 hb2=>hs.lt b2 oM,λi j o o' c c' b2 q1 q2 l1 l2 k1 k2 e1 e2=>?_,hs.gl.mono hF,λb2 hb2=>by rw[hsize];exact hs.nb b2 hb2⟩⟩;by_cases hii:i=id;subst hii;rw[List.getElem?_set_self (gn hi)] at q1;rw[hb] at q2;simp only[aK] at q1 q2;subst q1;subst q2;refine⟨_,vs,rfl,?_,RAs.mono (Pre.refl m) hF _ _ h,hk,g4⟩;obtain⟨r1,r2⟩:=g1;have hvl:vs.length=es.length*k:=by
  have:=aL h;rw[this];clear this h htk;have:∀l:List (List AV),(∀e∈l,e.length=k)->l.flatten.length=l.length*k:=by
   intro l;induction l with
   |nil=>simp
   |cons x l ih=>grind
  grind
 rcases r2 with⟨hv,_⟩|⟨g,cap',cur',hv,p1,p2,p3,p4,p5,p6⟩
 cases hv;simp only[Value.slice.injEq,aK,Addr.mk.injEq,and_true] at hv;obtain⟨rfl,rfl,rfl⟩:=hv;rw[hcur] at p2;simp only[aK,Obj.cells.injEq,and_true] at p2;subst p2;rw[hl];exact⟨hvl, .inr ⟨b,cap,new,rfl,p1,setRow_heap w b _ _ T (0,0) hcur,p3,p4,by rw[hsz];exact p5,htk⟩⟩;rw[List.getElem?_set_ne (Ne.symm hii)] at q1;have h:=hs.obj i o c q1 q2;cases hl:o.live with
 |true=>refine h.congr (Pre.refl m) hF (λb2 hb2=>⟨cw λe=>?_,rfl⟩);subst e;exact hii (hs.inj i id o _ c _ b2 q1 hi hl rfl q2 hb hb2 rfl)
 |false=>cases o<;>first|trivial|exact h|(simp[AO.live] at hl;done)
 have back:∀(i:Nat)(o:AO),(st.set id (.os T k ver es'))[i]? =some o->o.live=true->∃o2,st[i]? =some o2/\o2.live=true:=by intro i o g l;by_cases hii:i=id;subst hii;exact⟨_,hi,rfl⟩;grind
 obtain⟨p,p1,p2⟩:=back i o q1 l1;obtain⟨q,u1,u2⟩:=back j o' q2 l2;exact hs.inj i j p q c c' b2 p1 u1 p2 u2 k1 k2 e1 e2
section
variable{P:Program}{env:Env}{st:List AO}{dst:Option Tmp}{ty:TypeId}{pos:String}{after:Array Edge}{guard:Option (Nat×Bool)}
theorem rU{T:TypeId}{x y:Operand}{id ver off n T' k:Nat}{es es':List (List AV)}{r0 r:AV}{rs:List AV}(hx:opv env x=some (.pe id ver off))(hs:st[id]? =some (.os T' k ver es))(hy:opv env y=some r0)(hle:Le r0 r)(hk:r.okc=true)(hc:r.cells=rs)(hk1:rs.all AV.ok1=true)
  (hn:bI P T=some n)(hl:rs.length=n)(hlen:off+n<=es.flatten.length)(hes:es'.flatten=es.flatten.take off++rs++es.flatten.drop (off+n))(hel:es'.length=es.length)(hek:∀e∈es',e.length=k):
  fP P env st ⟨dst, .store T x y,ty,pos,after,guard⟩ (.d (.v undef)) (st.set id (.os T' k ver es')):=λm φ a w hsr he=>by
 obtain⟨b,len,cap,xs,g1,g2,g3,g4,g5,g6⟩:=mB hsr he hx hs;obtain⟨us,q1,q2⟩:=bW (hle _ _ _ _ (bv he hy)) hk;rw[hc] at q2;have hul:=aL q2;have hxl:=aL g4;obtain⟨r1,r2⟩:=g3;rcases r2 with⟨hv,_⟩|⟨g,cap',cur,hv,p1,p2,p3,p4,p5,p6⟩
 cases hv;obtain⟨rfl,rfl,rfl⟩:=hv;have hcl:es.length*k<=cur.size:=by grind
 have hst:=run_storeCells_at P b off T' us 0 cur w p2 oM (iX q2 hk1);have hsize:us.length=n:=oM;have hnew:RAs m φ w es'.flatten (xs.take off++us++xs.drop (off+n)):=by grind [ba,cW,cX]
 have htk:((cur.toList.take off++us++cur.toList.drop (off+n)).toArray.toList).take (es.length*k)=xs.take off++us++xs.drop (off+n):=by rw[<-p6];apply List.ext_getElem?;intro j;have hcz:cur.toList.length=cur.size:=sM;simp only[List.getElem?_take,List.getElem?_append,List.length_append,List.length_take,List.getElem?_drop,hsize,hcz];rw[Nat.min_eq_left (show off<=cur.size by omega),Nat.min_eq_left (show es.length*k<=cur.size by omega),Nat.min_eq_left (show off<=es.length*k by omega)];by_cases h1:j<es.length*k;grind;grind
 obtain⟨k1,k2⟩:=uR hsr hs g1 hnew hel hek cur p2 (cur.toList.take off++us++cur.toList.drop (off+n)).toArray (by simp[hsize];omega) htk;refine⟨undef,_,m,φ, .inr ⟨?_,rfl⟩,k1,k2,RAv⟩;simp_all [execOp,Instr.storeAt,Instr.sureAddr,storeVar,bG]
theorem vE{α:Type}{R:α->List D}{k:Nat}(hR:∀x,(R x).length=k):∀L:List α,(L.map (aS R)).flatten.length=L.length*k
 |[]=>sM
 |x::L=>by simp only[List.map_cons,List.flatten_cons,List.length_append,List.length_cons,vE hR L,Nat.succ_mul,aS,List.length_map,hR];omega
theorem iV{α:Type}{R:α->List D}{k:Nat}(hR:∀x,(R x).length=k):∀{L:List α}{i:Nat}{x:α},L[i]? =some x->∃l1 l2,(L.map (aS R)).flatten=l1++aS R x++l2/\l1.length=i*k/\∀z,((L.set i z).map (aS R)).flatten=l1++aS R z++l2
 |[],i,x,h=>by simp at h
 |y::L,0,x,h=>by
  simp only[List.getElem?_cons_zero,aK] at h;subst h;exact⟨[],(L.map (aS R)).flatten,sM,sM,λz=>sM⟩
 |y::L,i+1,x,h=>by
  simp only[List.getElem?_cons_succ] at h;obtain⟨l1,l2,h1,h2,h3⟩:=iV hR h;refine⟨aS R y++l1,l2,by simp[h1],?_,λz=>?_⟩;grind;simp_all
theorem ij{T n:Nat}{bb:Bool}{x ix:Operand}{id ver T' k:Nat}{α:Type}{R:α->List D}{L:List α}{kk:IntKind}{i:Int}{z:α}(hT:bE P T=some (n,bb))(hx:opv env x=some (.os id ver))(hs:st[id]? =some (.os T' k ver (L.map (aS R))))(hi:opv env ix=some (.d (.v (.int kk i))))(h:idx L i=some z):
  Yields P env st ⟨dst, .indexAddr T x ix,ty,pos,after,guard⟩ (.pe id ver (i.toNat*n)):=by grind [cv,ai,fj]
theorem aT{S i fo n:Nat}{bb:Bool}{x:Operand}{id ver off T k:Nat}{es:List (List AV)}(hf:cZ P S i=some (fo,n+1,bb))(hx:opv env x=some (.pe id ver off))(hs:st[id]? =some (.os T k ver es)):Yields P env st ⟨dst, .fieldAddr S x i,ty,pos,after,guard⟩ (.pe id ver (off+fo)):=λm φ a w hsr he=>by
 obtain⟨b,len,cap,xs,g1,g2,_⟩:=mB hsr he hx hs;exact⟨_,by simp only[RA];exact⟨_,_,g1,Nat.le_refl _,λ_=>⟨b,len,cap,rfl,rfl⟩⟩,λw' _=>by simp[execOp,g2,iq hf]⟩
theorem dc{T:TypeId}{x:Operand}{id ver off fo T' k:Nat}{α:Type}{R:α->List D}{L:List α}{i:Int}{z:α}{r:AV}(hx:opv env x=some (.pe id ver off))(hoff:off=i.toNat*k+fo)(hs:st[id]? =some (.os T' k ver (L.map (aS R))))(hT:aX P T=some false)(hR:∀x,(R x).length=k)(hi:idx L i=some z)(hr:(aS R z)[fo]? =some r):
  Yields P env st ⟨dst, .load T x,ty,pos,after,guard⟩ r:=by
 refine c6 hx hs hT ?_;subst hoff;obtain⟨l1,l2,h1,h2,_⟩:=iV hR (bg hi);grind
theorem ik{T:TypeId}{x:Operand}{id ver off fo n T' k:Nat}{α:Type}{R:α->List D}{L:List α}{i:Int}{z:α}{rs:List AV}(hx:opv env x=some (.pe id ver off))(hoff:off=i.toNat*k+fo)(hs:st[id]? =some (.os T' k ver (L.map (aS R))))(hT:aX P T=some true)(hn:bI P T=some n)(hR:∀x,(R x).length=k)(hi:idx L i=some z)(hr:((aS R z).drop fo).take n=rs)(hrl:Nat.ble (fo+n) k=true):
  Yields P env st ⟨dst, .load T x,ty,pos,after,guard⟩ (.ag rs):=by
 subst hoff;obtain⟨l1,l2,h1,h2,_⟩:=iV hR (bg hi);have hle2:=nbT hrl;have hz:(aS R z).length=k:=by grind
 have:=qZ (P:=P) (dst:=dst) (ty:=ty) (pos:=pos) (after:=after) (guard:=guard) (n:=n) hx hs hT hn (by rw[h1];simp only[List.length_append];omega);rw[h1,List.append_assoc,List.drop_append,h2,show i.toNat*k+fo - i.toNat*k=fo from by omega,List.drop_eq_nil_of_le oM,List.nil_append,List.drop_append,List.take_append_of_le_length (by rw[List.length_drop];omega),hr] at this;exact this
theorem cR{T:TypeId}{x y:Operand}{id ver off fo n T' k:Nat}{α:Type}{R:α->List D}{L:List α}{i:Int}{z:α}(z':α){r0 r:AV}{rs:List AV}(hx:opv env x=some (.pe id ver off))(hoff:off=i.toNat*k+fo)(hs:st[id]? =some (.os T' k ver (L.map (aS R))))(hy:opv env y=some r0)(hle:Le r0 r)(hk:r.okc=true)(hc:r.cells=rs)(hk1:rs.all AV.ok1=true)
  (hn:bI P T=some n)(hl:rs.length=n)(hR:∀x,(R x).length=k)(hi:idx L i=some z)(hrl:Nat.ble (fo+n) k=true)(hz':aS R z'=(aS R z).take fo++rs++(aS R z).drop (fo+n)):
  fP P env st ⟨dst, .store T x y,ty,pos,after,guard⟩ (.d (.v undef)) (st.set id (.os T' k ver ((L.set i.toNat z').map (aS R)))):=by
 subst hoff;obtain⟨l1,l2,h1,h2,h3⟩:=iV hR (bg hi);have hle2:=nbT hrl;have hz:(aS R z).length=k:=by grind
 refine rU hx hs hy hle hk hc hk1 hn hl (by rw[h1];simp only[List.length_append];omega) ?_ sM (λe he=>by obtain⟨x,_,rfl⟩:=List.mem_map.1 he;rw[aS,List.length_map,hR]);have e1:(l1++aS R z++l2).take (i.toNat*k+fo)=l1++(aS R z).take fo:=by rw[List.append_assoc,List.take_append,List.take_of_length_le oM,h2,show i.toNat*k+fo - i.toNat*k=fo from by omega,List.take_append_of_le_length oM]
 have e2:(l1++aS R z++l2).drop (i.toNat*k+fo+n)=(aS R z).drop (fo+n)++l2:=by rw[List.append_assoc,List.drop_append,List.drop_eq_nil_of_le oM,h2,show i.toNat*k+fo+n - i.toNat*k=fo+n from by omega,List.nil_append,List.drop_append_of_le_length oM]
 grind
end
end Go.Sk
namespace Go.Sk
open Go.RowKit (Below)
inductive LK where
 |int(k:IntKind)
 |bool
 |str
def LK.fits:LK->Value->Bool
 | .int k, .int k' _=>decide (k=k')
 | .bool, .bool _=>true
 | .str, .string _=>true
 |_,_=>false
def cU:List LK->List Value->Bool
 |[],[]=>true
 |k::ks,v::vs=>k.fits v&&cU ks vs
 |_,_=>false
def mO:Value->Value->Bool
 | .int _ a, .int _ b=>decide (a=b)
 | .bool a, .bool b=>a==b
 | .string a, .string b=>a.toList==b.toList
 |_,_=>false
def eqL:List Value->List Value->Bool
 |[],[]=>true
 |x::xs,y::ys=>mO x y&&eqL xs ys
 |_,_=>false
mutual
def lQ(P:Program):Nat->TypeId->Option (List LK)
 |0,_=>none
 |d+1,T=>match P.underlying T with
  |some (.int k)=>some [.int k]
  |some .bool=>some [.bool]
  |some .string=>some [.str]
  |some (.struct fs)=>if P.stoodInHeld T then none else leafF P d fs.toList 0
  |some (.array n e)=>match lQ P d e,bI P e with
   |some ks,some m=>if ks.length=m/\(aX P e=some true\/(aX P e=some false/\m=1)) then some (List.replicate n ks).flatten else none
   |_,_=>none
  |_=>none
def leafF(P:Program):Nat->List Field->Nat->Option (List LK)
 |_,[],_=>some []
 |0,_::_,_=>none
 |d+1,f::fs,off=>if f.name≠ "_"/\f.offset=off then
   match lQ P d f.type,bI P f.type with
   |some ks,some n=>if ks.length=n/\(aX P f.type=some true\/(aX P f.type=some false/\n=1)) then(leafF P d fs (off+n)).map (ks++·) else none
   |_,_=>none
  else none
end
theorem dk:∀{ks:List LK}{vs:List Value},cU ks vs=true->vs.length=ks.length
 |[],[],_=>rfl
 |k::ks,v::vs,h=>by simp only[cU,Bool.and_eq_true] at h;simp[dk h.2]
 |[],_::_,h=>by simp[cU] at h
 |_::_,[],h=>by simp[cU] at h
theorem fu:∀{ks ls:List LK}{vs:List Value},cU (ks++ls) vs=true->cU ks (vs.take ks.length)=true/\cU ls (vs.drop ks.length)=true
 |[],ls,vs,h=>by simpa[cU] using h
 |k::ks,ls,[],h=>by simp[cU] at h
 |k::ks,ls,v::vs,h=>by
  simp only[List.cons_append,cU,Bool.and_eq_true] at h;obtain⟨h1,h2⟩:=fu h.2;grind [cU]
theorem jJ:∀{xs ys us vs:List Value},xs.length=ys.length->eqL (xs++us) (ys++vs)=(eqL xs ys&&eqL us vs)
 |[],[],us,vs,_=>by simp[eqL]
 |x::xs,y::ys,us,vs,h=>by simp only[List.cons_append,eqL,jJ (xs:=xs) (ys:=ys) (by simpa using h),Bool.and_assoc]
 |[],_::_,_,_,h=>by simp at h
 |_::_,[],_,_,h=>by simp at h
def gV:TypeDesc->Bool| .struct _=>true| .array _ _=>true|_=>false
theorem mZ{P:Program}{T:TypeId}{u:TypeDesc}(hu:P.underlying T=some u):aX P T=some (gV u):=by unfold aX;rw[hu];cases u<;>rfl
theorem ff{P:Program}{T:TypeId}{b:Bool}(h:aX P T=some b)(w:World):(isAgg T).run P w= .ok b w:=by
 unfold aX at h;cases hu:P.underlying T with
 |none=>simp[hu] at h
 |some u=>simp only[hu,Option.map_some,aK] at h;subst h;simp only[isAgg,Sem.run_bind,run_underlying hu,Result.andThen_ok];cases u<;>simp
theorem ip{P:Program}{T:TypeId}{n:Nat}(h:bI P T=some n)(w:World):(sizeOf T).run P w= .ok n w:=by
 unfold bI at h;cases hi:P.info? T with
 |none=>simp[hi] at h
 |some i=>simp_all [h,sizeOf,typeInfo]
def blk(n:Nat)(l:List Value)(i:Nat):List Value:=(l.drop (i*n)).take n
theorem kZ{ks:List LK}:∀{m:Nat}{xs:List Value},cU (List.replicate m ks).flatten xs=true->∀i,i<m->cU ks (blk ks.length xs i)=true
 |0,_,_,i,hi=>oM
 |m+1,xs,h,i,hi=>by
  obtain⟨h1,h2⟩:=fu h;cases i with
  |zero=>grind [blk]
  |succ i=>have:=kZ h2 i oM;grind [blk,List.drop_drop]
theorem tf:∀(m n:Nat)(xs ys:List Value),xs.length=m*n->ys.length=m*n->((List.range m).all λi=>eqL (blk n xs i) (blk n ys i))=eqL xs ys
 |0,n,xs,ys,h1,h2=>by
  rw[Nat.zero_mul] at h1 h2;rw[List.eq_nil_of_length_eq_zero h1,List.eq_nil_of_length_eq_zero h2];rfl
 |m+1,n,xs,ys,h1,h2=>by
  rw[Nat.succ_mul] at h1 h2;have ih:=tf m n (xs.drop n) (ys.drop n) (by rw[List.length_drop];omega) (by rw[List.length_drop];omega);have e:∀(l:List Value)(i:Nat),blk n l (i+1)=blk n (l.drop n) i:=λl i=>by
   unfold blk;rw[List.drop_drop,Nat.succ_mul,Nat.add_comm]
  rw[List.range_succ_eq_map,List.all_cons,List.all_map];simp only[Function.comp_def,e,Nat.succ_eq_add_one,ih];have e0:∀l:List Value,blk n l 0=l.take n:=by grind [blk]
  rw[e0,e0];conv=>rhs;rw[<-List.take_append_drop n xs,<-List.take_append_drop n ys]
  rw[jJ (by rw[List.length_take,List.length_take];omega)]
theorem ma{P:Program}(w:World)(n:Nat)(t e:TypeId)(m sz:Nat)(ks:List LK)(ht:P.underlying t=some (.array m e))(hsz:bI P e=some sz)(hlen:ks.length=sz)(hag:aX P e=some true\/(aX P e=some false/\sz=1))
  (ih:∀xs ys,cU ks xs=true->cU ks ys=true->(aX P e=some true->(Op.equalIn n e (.agg ⟨xs⟩) (.agg ⟨ys⟩)).run P w= .ok (eqL xs ys) w)/\(aX P e=some false->∀x y,xs=[x]->ys=[y]->(Op.equalIn n e x y).run P w= .ok (eqL xs ys) w))
  (xs ys:List Value)(h1:cU (List.replicate m ks).flatten xs=true)(h2:cU (List.replicate m ks).flatten ys=true):
  (Op.equalIn (n+1) t (.agg ⟨xs⟩) (.agg ⟨ys⟩)).run P w= .ok (eqL xs ys) w:=by
 have hfl:(List.replicate m ks).flatten.length=m*sz:=by rw[List.length_flatten,List.map_replicate,List.sum_replicate_nat,hlen]
 have lx:xs.length=m*sz:=by rw[<-hfl];exact dk h1
 have ly:ys.length=m*sz:=by rw[<-hfl];exact dk h2
 rw[<-tf m sz xs ys lx ly,List.range_eq_range',Op.equalIn];simp only[Sem.run_bind,run_underlying ht,Result.andThen_ok,ip hsz,Std.Legacy.Range.forIn_eq_forIn_range',Std.Legacy.Range.size,Nat.sub_zero,Nat.add_sub_cancel,Nat.div_one];have hl:∀i∈List.range' 0 m 1,i<m:=by grind
 generalize List.range' 0 m 1=l at hl⊢;induction l with
 |nil=>simp
 |cons i l ih2=>
  have hi:i<m:=hl i sM;have hbnd:i*sz+sz<=m*sz:=by
   calc i*sz+sz=(i+1)*sz:=by rw[Nat.succ_mul]
    _<=m*sz:=Nat.mul_le_mul_right _ hi
  have f1:=kZ h1 i hi;have f2:=kZ h2 i hi;rw[hlen] at f1 f2;obtain⟨i1,i2⟩:=ih _ _ f1 f2;have key:∀zs:List Value,zs.length=m*sz->(part e ⟨zs⟩ (i*sz)).run P w= .ok (if aX P e=some true then .agg ⟨blk sz zs i⟩ else((zs.drop (i*sz))[0]?).getD undef) w:=by
   intro zs hz;rcases hag with hag|⟨hag,hm1⟩
   rw[if_pos hag];simp only[part,Sem.run_bind,ff hag,Result.andThen_ok,if_true,ip hsz,Sem.run_pure];congr 2;apply Array.toList_inj.mp;simp[List.extract_eq_take_drop,blk];rw[if_neg (by rw[hag];simp)];simp only[part,Sem.run_bind,ff hag,Result.andThen_ok,Bool.false_eq_true,if_false];have:i*sz<zs.length:=oM;simp[this]
  have pe:(Op.equalIn n e (if aX P e=some true then .agg ⟨blk sz xs i⟩ else((xs.drop (i*sz))[0]?).getD undef) (if aX P e=some true then .agg ⟨blk sz ys i⟩ else((ys.drop (i*sz))[0]?).getD undef)).run P w= .ok (eqL (blk sz xs i) (blk sz ys i)) w:=by
   rcases hag with hag|⟨hag,hm1⟩
   rw[if_pos hag,if_pos hag];exact i1 hag;rw[if_neg (by rw[hag];simp),if_neg (by rw[hag];simp)];have ex:∀zs:List Value,zs.length=m*sz->blk sz zs i=[((zs.drop (i*sz))[0]?).getD undef]:=by intro zs hz;have:i*sz<zs.length:=oM;unfold blk;subst hm1;rw[List.drop_eq_getElem_cons this];rfl
   exact i2 hag _ _ (ex xs lx) (ex ys ly)
  simp only[List.forIn_cons,Sem.run_bind,key xs lx,key ys ly,pe,Result.andThen_ok,List.all_cons];cases hb:eqL (blk sz xs i) (blk sz ys i);simp;simp only[Bool.not_true,Bool.false_eq_true,if_false,Sem.run_pure,Result.andThen_ok,Bool.true_and];exact ih2 λj hj=>hl j (by simp[hj])
theorem eB{P:Program}(w:World):∀(d:Nat),
  (∀(T:TypeId)(ks:List LK)(n:Nat)(xs ys:List Value),lQ P d T=some ks->d<=n->cU ks xs=true->cU ks ys=true->
   (aX P T=some true->(Op.equalIn n T (.agg ⟨xs⟩) (.agg ⟨ys⟩)).run P w= .ok (eqL xs ys) w)/\
   (aX P T=some false->∀x y,xs=[x]->ys=[y]->(Op.equalIn n T x y).run P w= .ok (eqL xs ys) w))/\
  (∀(fs:List Field)(off:Nat)(ks:List LK)(n:Nat)(xs ys:List Value),leafF P d fs off=some ks->d<=n->cU ks (xs.drop off)=true->cU ks (ys.drop off)=true->xs.length=ys.length->
   (Op.eqFields n ⟨xs⟩ ⟨ys⟩ fs).run P w= .ok (eqL (xs.drop off) (ys.drop off)) w)
 |0=>by
  constructor;intro T ks n xs ys h;simp[lQ] at h;intro fs off ks n xs ys h hn h1 h2 hl;cases fs with
  |nil=>simp only[leafF,aK] at h;subst h;have a1:=dk h1;have a2:=dk h2;rw[List.eq_nil_of_length_eq_zero a1,List.eq_nil_of_length_eq_zero a2];simp[Op.eqFields,eqL]
  |cons f fs=>simp[leafF] at h
 |d+1=>by
  obtain⟨ihK,ihF⟩:=eB w d;constructor;intro T ks n xs ys h hn h1 h2;obtain⟨n,rfl⟩:∃n',n=n'+1:=⟨n - 1,oM⟩;simp only[lQ] at h;cases hu:P.underlying T with
  |none=>simp[hu] at h
  |some u=>
   rw[hu] at h;have hag:=mZ hu;cases u with
   |int k=>simp only[aK] at h;subst h;refine⟨λh=>by simp[hag,gV] at h,λ_ x y hx hy=>?_⟩;subst hx;subst hy;simp only[cU,Bool.and_true] at h1 h2;cases x<;>simp only[LK.fits,Bool.false_eq_true] at h1;cases y<;>simp only[LK.fits,Bool.false_eq_true] at h2;simp only[decide_eq_true_eq] at h1 h2;subst h1;subst h2;rw[run_equalIn_int w n T _ k _ _ hu];simp[eqL,mO,Int.beq_dec]
   |bool=>simp only[aK] at h;subst h;refine⟨λh=>by simp[hag,gV] at h,λ_ x y hx hy=>?_⟩;subst hx;subst hy;simp only[cU,Bool.and_true] at h1 h2;cases x<;>simp only[LK.fits,Bool.false_eq_true] at h1;cases y<;>simp only[LK.fits,Bool.false_eq_true] at h2;rw[run_equalIn_bool' w n T _ _ hu];simp[eqL,mO]
   |string=>simp only[aK] at h;subst h;refine⟨λh=>by simp[hag,gV] at h,λ_ x y hx hy=>?_⟩;subst hx;subst hy;simp only[cU,Bool.and_true] at h1 h2;cases x<;>simp only[LK.fits,Bool.false_eq_true] at h1;cases y<;>simp only[LK.fits,Bool.false_eq_true] at h2;rw[run_equalIn_string w n T _ _ hu];simp[eqL,mO]
   |struct fs=>
    simp only at h;split at h;cases h;rename_i hst;refine⟨λ_=>?_,λh=>by simp[hag,gV] at h⟩;have hf:P.fieldsOf T=fs:=by simp[Program.fieldsOf,hu]
    rw[run_equalIn_struct w n T ⟨xs⟩ ⟨ys⟩ (by rw[hf,hu]) (by simpa using hst),hf];have:=ihF fs.toList 0 ks n xs ys h oM (by simpa using h1) (by simpa using h2) (by rw[dk h1,dk h2]);simpa using this
   |array m e=>simp only at h;split at h;rename_i ks1 sz hk hsz;split at h;rename_i hc;simp only[aK] at h;subst h;refine⟨λ_=>?_,λh=>by simp[hag,gV] at h⟩;exact ma w n T e m sz ks1 hu hsz hc.1 hc.2 (λxs ys f1 f2=>ihK e ks1 n xs ys hk oM f1 f2) xs ys h1 h2;cases h;cases h
   |_=>simp at h
  intro fs off ks n xs ys h hn h1 h2 hl;cases fs with
  |nil=>simp only[leafF,aK] at h;subst h;have a1:=dk h1;have a2:=dk h2;rw[List.eq_nil_of_length_eq_zero a1,List.eq_nil_of_length_eq_zero a2];simp[Op.eqFields,eqL]
  |cons f fs=>
   simp only[leafF] at h;split at h;rename_i hc;obtain⟨hname,hoff⟩:=hc;split at h;rename_i ks1 m hk1 hm;split at h;rename_i hc2;obtain⟨hlen,hag⟩:=hc2;obtain⟨ks2,hks2,rfl⟩:=Option.map_eq_some_iff.1 h;obtain⟨f1,f2⟩:=fu h1;obtain⟨g1,g2⟩:=fu h2;have lx:=dk h1;have ly:=dk h2;simp only[List.length_append,List.length_drop] at lx ly;have key:∀zs:List Value,zs.length=xs.length->(part f.type ⟨zs⟩ f.offset).run P w= .ok (if aX P f.type=some true then .agg ⟨(zs.drop off).take m⟩ else((zs.drop off)[0]?).getD undef) w:=by
    intro zs hz;rcases hag with hag|⟨hag,hm1⟩
    rw[if_pos hag];simp only[part,Sem.run_bind,ff hag,Result.andThen_ok,if_true,ip hm,Sem.run_pure];rw[hoff];congr 2;apply Array.toList_inj.mp;simp[List.extract_eq_take_drop];rw[if_neg (by rw[hag];simp)];simp only[part,Sem.run_bind,ff hag,Result.andThen_ok,Bool.false_eq_true,if_false];have:off<zs.length:=oM;simp[hoff,this]
   have hmain:(Op.equalIn n f.type (if aX P f.type=some true then .agg ⟨(xs.drop off).take m⟩ else((xs.drop off)[0]?).getD undef) (if aX P f.type=some true then .agg ⟨(ys.drop off).take m⟩ else((ys.drop off)[0]?).getD undef)).run P w= .ok (eqL ((xs.drop off).take m) ((ys.drop off).take m)) w:=by
    obtain⟨i1,i2⟩:=ihK f.type ks1 n _ _ hk1 oM f1 g1;rw[hlen] at i1 i2;rcases hag with hag|⟨hag,hm1⟩
    rw[if_pos hag,if_pos hag];exact i1 hag;rw[if_neg (by rw[hag];simp),if_neg (by rw[hag];simp)];have ex:∀zs:List Value,zs.length=xs.length->(zs.drop off).take m=[((zs.drop off)[0]?).getD undef]:=by intro zs hz;have:off<zs.length:=oM;subst hm1;rw[List.drop_eq_getElem_cons this];rfl
    exact i2 hag _ _ (ex xs rfl) (ex ys hl.symm)
   have hrest:=ihF fs (off+m) ks2 n xs ys hks2 oM (by rw[List.drop_drop,hlen] at f2;exact f2) (by rw[List.drop_drop,hlen] at g2;exact g2) hl;have hsplit:eqL (xs.drop off) (ys.drop off)=(eqL ((xs.drop off).take m) ((ys.drop off).take m)&&eqL (xs.drop (off+m)) (ys.drop (off+m))):=by
    conv=>lhs;rw[<-List.take_append_drop m (xs.drop off),<-List.take_append_drop m (ys.drop off)]
    rw[jJ (by simp only[List.length_take,List.length_drop];omega),List.drop_drop,List.drop_drop]
   simp only[Op.eqFields,if_pos hname,Sem.run_bind,key xs rfl,key ys hl.symm,Result.andThen_ok,hmain];rw[hsplit];cases hb:eqL ((xs.drop off).take m) ((ys.drop off).take m) with
   |false=>simp
   |true=>simpa using hrest
   cases h;cases h;cases h
section
variable{P:Program}{env:Env}{st:List AO}{dst:Option Tmp}{ty:TypeId}{pos:String}{after:Array Edge}{guard:Option (Nat×Bool)}
theorem gA{φ w}:∀{vs cs:List Value},RFs φ w (vs.map D.v) cs->cs=vs
 |[],cs,h=>by simpa[RFs] using h
 |v::vs,cs,h=>by
  obtain⟨c,cs',rfl,rfl,h⟩:=h;rw[gA h]
def kU(P:Program)(T:TypeId):Option (List LK):=bif P.eqGuardType P.depth T then none else match aX P T with|some true=>lQ P 100 T|_=>none
theorem q'{x y:Operand}{T T':TypeId}{xa ya:AV}{xs ys:List Value}{ks:List LK}{b:Bool}(hT:kU P T=some ks)(hx:opv env x=some xa)(hlx:Le xa (.d (.ag (xs.map D.v))))(hy:opv env y=some ya)(hly:Le ya (.d (.ag (ys.map D.v))))(h1:cU ks xs=true)(h2:cU ks ys=true)(hb:eqL xs ys=b):
  Yields P env st ⟨dst, .binOp .eql T x y T',ty,pos,after,guard⟩ (.d (.v (.bool b))):=λm φ a w _ he=>by
 unfold kU at hT;cases hg:P.eqGuardType P.depth T with
 |true=>grind
 |false=>rw[hg] at hT;split at hT;rename_i hag;have ex:=hlx _ _ _ _ (bv he hx);have ey:=hly _ _ _ _ (bv he hy);obtain⟨cs,e1,e2⟩:=ex;obtain⟨ds,e3,e4⟩:=ey;have e5:=gA e2;rw[e5] at e1;have e6:=gA e4;rw[e6] at e3;refine⟨_,RAv,λw' _=>?_⟩;have:=((eB (P:=P) w' 100).1 T ks 10000 xs ys hT dC h1 h2).1 hag;simp_all [execOp,run_eqGuard_agg,run_eql_struct];cases hT
theorem ye{x y:Operand}{T T':TypeId}{xa ya:AV}{xs ys:List Value}{ks:List LK}{b:Bool}(hT:kU P T=some ks)(hx:opv env x=some xa)(hlx:Le xa (.d (.ag (xs.map D.v))))(hy:opv env y=some ya)(hly:Le ya (.d (.ag (ys.map D.v))))(h1:cU ks xs=true)(h2:cU ks ys=true)(hb:eqL xs ys=b):
  Yields P env st ⟨dst, .binOp .neq T x y T',ty,pos,after,guard⟩ (.d (.v (.bool (!b)))):=λm φ a w _ he=>by
 unfold kU at hT;cases hg:P.eqGuardType P.depth T with
 |true=>grind
 |false=>rw[hg] at hT;split at hT;rename_i hag;have ex:=hlx _ _ _ _ (bv he hx);have ey:=hly _ _ _ _ (bv he hy);obtain⟨cs,e1,e2⟩:=ex;obtain⟨ds,e3,e4⟩:=ey;have e5:=gA e2;rw[e5] at e1;have e6:=gA e4;rw[e6] at e3;refine⟨_,RAv,λw' _=>?_⟩;have:=((eB (P:=P) w' 100).1 T ks 10000 xs ys hT dC h1 h2).1 hag;simp_all [execOp,run_eqGuard_agg,run_neq_struct];cases hT
end
end Go.Sk
namespace Go.Sk
open Go.RowKit (Below)
theorem nT(js:List Nat):∀l:List D,AV.rens js (l.map AV.d)=l.map AV.d
 |[]=>rfl
 |x::l=>by rw[List.map_cons,AV.rens,nT js l];rfl
theorem uY{α:Type}(js:List Nat)(T k v:Nat)(E:α->List D)(L:List α):AO.ren js (.os T k v (L.map (aS E)))= .os T k v (L.map (aS E)):=by grind [AO.ren,List.map_congr_left,nT]
theorem eC{κ α:Type}(js:List Nat)(kf:κ->Value)(g:α->D)(L:List (κ×α)):AO.ren js (.mp (L.map λp=>(kf p.1,AV.d (g p.2))))= .mp (L.map λp=>(kf p.1,AV.d (g p.2))):=by simp only[AO.ren,List.map_map];congr 1
theorem cL{α:Type}{a b:α}{l l':List α}(h:a=b)(k:l=l'):a::l=b::l':=by rw[h,k]
section
variable{P:Program}{e:En}{ops:Array Oper}{l rest:List Oper}{env:Env}{st:List AO}{R:Env->List AO->Prop}{K:Ko}
theorem cC{o:Oper}{d:Nat}{f:FuncId}{c:Call}{x:Operand}{first caps asz as0:List AV}{st0 st0':List AO}{new new':Nat->List AO}{y:D}(js:List Nat)(hop:o.op= .call c)(hx:c.callee= .value x)
  (hf:opv env x=some (.fn (.func f) first caps))(has:dw env c.args.toList=some asz)(hc:Ctr P f as0 st0 (jO st0.length y new))(hl:Les (first++asz++caps) (AV.rens js as0))
  (hla:AV.lts js.length as0=true)(hj:js.Nodup)(hren0:st0.map (AO.ren js)=st0')(hwin:e9 js st st0')(hlt:dg js.length st0=true)(hlive:gW st0=true)(hnew:∀i,dg js.length (new i)=true)
  (hren:∀i,(new i).map (AO.ren js)=new' i)
  (hw:Wt ops env o true)(ho:o.dst=some d)(hd:Nat.ble (d+1) e.n=true)(h:∀i,WL P e ops rest ((d, .d y)::env) (bM js (new' i) st) R):WL P e ops (o::rest) env st R:=by grind [xv]
end
end Go.Sk
namespace Go.Sk
open Go.RowKit (Below)
section
variable{P:Program}{e:En}{ops:Array Oper}{l rest:List Oper}{env:Env}{st:List AO}{R:Env->List AO->Prop}{K:Ko}
variable{dst:Option Tmp}{ty:TypeId}{pos:String}{after:Array Edge}{guard:Option (Nat×Bool)}
theorem yW{φ w}{ds:List (List D)}{y:Value}(h:RD φ w (.sl ds) y):∃a l c,y= .slice a l c/\(a.isNone=true->ds=[]):=by grind [RD]
theorem m4{T T' E d:Nat}{x:Operand}{xr:AV}{ds:List (List D)}{bo:BinOp}(neg:Bool)(hb:bo=bif neg then .neq else .eql)(hT:P.underlying T=some (.slice E))(hx:opv env x=some xr)(hl:Le xr (.d (.sl ds)))
  (hw:Wt ops env ⟨some d, .binOp bo T x (.const (.slice none 0 0)) T',ty,pos,after,guard⟩ true)(hd:Nat.ble (d+1) e.n=true)(h:∀b:Bool,(b=true->ds=[])->WL P e ops rest ((d, .d (.v (.bool (b !=neg))))::env) st R):
  WL P e ops (⟨some d, .binOp bo T x (.const (.slice none 0 0)) T',ty,pos,after,guard⟩::rest) env st R:=λm φ a w hi=>by
 have h1:=hl _ _ _ _ (bv hi.env hx);obtain⟨ad,ll,cc,h2,h3⟩:=yW h1;unfold eX;rw[if_pos (hw _ _ _ _ hi.env)];refine .inl ?_;have hrun:(execOp a.eval ⟨some d, .binOp bo T x (.const (.slice none 0 0)) T',ty,pos,after,guard⟩).run P w= .ok (.value (.bool (ad.isNone !=neg))) w:=by subst hb;cases neg;have hc:a.eval (.const (.slice none 0 0))= .slice none 0 0:=rfl;simp_all [execOp,eqGuard,binOp,run_equal_slice_nil];have hc:a.eval (.const (.slice none 0 0))= .slice none 0 0:=rfl;simp_all [execOp,eqGuard,binOp,run_equal_slice_nil]
 simp only[Oper.wp,hrun,Oper.upon];exact h ad.isNone h3 m φ _ w (hi.put (nbT hd) RAv)
theorem WL.cast(t:Nat){x y:AV}(ht:env.get t=some x)(hl:Le x y)(h:WL P e ops rest ((t,y)::env) st R):WL P e ops rest env st R:=
 WL.sub (Sub.cons ht hl (Sub.refl env)) h
theorem eh(b:Bool):b=true\/b=false:=by cases b<;>simp
end
end Go.Sk
namespace Go.Sk
open Go.RowKit (Below)
open Go.ChangeShapes Go.WideShapes Go.ChangeAt Go.RowKit
theorem lz{H:Type}{enc:TypeId×Value->H}{P:Program}{w:World}{base:Nat}{spare:Nat->Bool}{held:Bool}:∀{ts:List TypeId}{vs:List Value}{ds:List (DataW H)}{ps:List MemPlace},DataW.TrodAll enc P w base spare held ts vs ds ps->ds.length=ts.length/\vs.length=ts.length
 |[],[],[],_,_=>⟨rfl,rfl⟩
 |t::ts,v::vs,d::ds,ps,h=>by
  obtain⟨p,q,_,h2,_⟩:=h;have:=lz h2;simp[this.1,this.2]
 |[],[],_::_,_,h=>h.elim
 |[],_::_,_,_,h=>h.elim
 |_::_,[],_,_,h=>h.elim
 |_::_,_::_,[],_,h=>h.elim
theorem jm{H:Type}{enc:TypeId×Value->H}{P:Program}(hl:laidOutB P=true){W W':World}(hb:Below W.heap.size W W'):∀{ts:List TypeId}{vs:List Value}{ds:List (DataW H)}{ps:List MemPlace},
  (ts.all λt=>P.readableRec t&&decide (t<P.types.size))=true->DataW.TrodAll enc P W 0 (λ_=>true) true ts vs ds ps->(∀x∈ps,x.block<W.heap.size)->DataW.TrodAll enc P W' 0 (λb=>decide (b<W.heap.size)) true ts vs ds ps
 |[],[],[],ps,_,h,_=>h
 |t::ts,v::vs,d::ds,ps,ht,h,hlt=>by
  obtain⟨p,q,h1,h2,rfl⟩:=h;simp only[List.all_cons,Bool.and_eq_true,decide_eq_true_eq] at ht;exact⟨p,q,Below.trod hl ht.1.1 ht.1.2 h1 hb (λx hx=>hlt x (by simp[hx])),jm hl hb ht.2 h2 (λx hx=>hlt x (by simp[hx])),rfl⟩
 |[],[],_::_,_,_,h,_=>h.elim
 |[],_::_,_,_,_,h,_=>h.elim
 |_::_,[],_,_,_,h,_=>h.elim
 |_::_,_::_,[],_,_,h,_=>h.elim
def bz(W:World)(b:Nat):Nat:=match W.heap[b]? with|some (.cells c _ _)=>c.size|_=>0
theorem uN(W:World)(hg:Gl (bz W) W):SR [] (bz W) [] W where
 len:=rfl
 obj i o c h:=by simp at h
 lt b hb:=by simp[bz,hb]
 inj i j o o' c c' b h:=by simp at h
 gl:=hg
 nb b h:=by obtain⟨i,c,h,_⟩:=h;simp at h
theorem qI{P:Program}{f:FuncId}{ds:List D}{W:World}{vs:List Value}(hg:Gl (bz W) W)(h:Pu P f ds (.b true))(ha:RAs [] (bz W) W (ds.map .d) vs):Calls P f ⟨vs⟩ W λe W'=>e= .returned (.bool true)/\Below W.heap.size W W':=by refine(h.2 [] (bz W) W vs (uN W hg) ha).mono ?_;rintro en w' ⟨v,r,st',m',φ',rfl,⟨rfl,rfl⟩,hev,_,hra⟩;simp only[RA,RD] at hra;subst hra;exact⟨rfl,hev.os,hev.tape,hev.output,hev.size,λb hb=>(hev.keep b hb (by rintro⟨i,c,h,_⟩;simp at h)).1⟩
end Go.Sk
namespace Go.Sk
open Go.RowKit (Below)
section
variable{H:Type}{enc:TypeId×Value->H}{P:Program}{W:World}{spare:Nat->Bool}{held:Bool}
theorem xo{W:World}{b off:Nat}{c:Value}(h:W.cell? ⟨b,off,none⟩=some c):off<bz W b:=by unfold World.cell? at h;unfold bz;split at h;rename_i cs t fr hh;simp only at hh;rw[hh];simp only[Option.isSome_none,Bool.false_eq_true,if_false] at h;exact(Array.getElem?_eq_some_iff.1 h).1;cases h
def Reads(enc:TypeId×Value->H)(P:Program)(W:World)(spare:Nat->Bool)(held:Bool)(fuel:Nat)(T:TypeId){α:Type}(E:α->List D)(G:α->Prop):Prop:=
 ∀cs y,DataW.trod enc P W 0 spare held fuel T cs=some y->∃x,RFs (bz W) W (E x) cs/\G x
theorem Reads.zero{T:TypeId}{α:Type}{E:α->List D}{G:α->Prop}:Reads enc P W spare held 0 T E G:=λcs y h=>by simp[DataW.trod] at h
theorem aJ{T:TypeId}{k:IntKind}(hT:P.underlying T=some (.int k)):∀fuel,Reads enc P W spare held fuel T (λn:Int=> [.i k n]) (λn=>k.min<=n/\n<=k.max)
 |0=>Reads.zero
 |fuel+1=>λcs y h=>by
  rcases cs with _|⟨v,_|⟨v2,r⟩⟩
  simp[DataW.trod,hT] at h;cases v<;>simp only[DataW.trod,hT,reduceCtorEq] at h;rename_i k' n;split at h;rename_i hc;obtain⟨rfl,hw⟩:=hc;refine⟨n,by simp[RFs,RD],?_⟩;simpa[Lit.wf,IntKind.has] using hw;cases h;simp[DataW.trod,hT] at h
theorem mv{T:TypeId}(hT:P.underlying T=some .bool):∀fuel,Reads enc P W spare held fuel T (λb:Bool=> [.b b]) (λ_=>True)
 |0=>Reads.zero
 |fuel+1=>λcs y h=>by
  rcases cs with _|⟨v,_|⟨v2,r⟩⟩
  simp[DataW.trod,hT] at h;cases v<;>simp only[DataW.trod,hT,reduceCtorEq] at h;rename_i b;exact⟨b,by simp[RFs,RD],trivial⟩;simp[DataW.trod,hT] at h
theorem gw{α β:Type}{f:α->Option β}:∀{l:List α}{r:List β},l.mapM f=some r->∀(i:Nat)(a:α),l[i]? =some a->∃b,f a=some b/\r[i]? =some b
 |[],r,h,i,a,ha=>by simp at ha
 |x::l,r,h,i,a,ha=>by
  rw[List.mapM_cons] at h;cases hx:f x with
  |none=>simp[hx] at h
  |some b=>
   cases hl:l.mapM f with
   |none=>simp[hx,hl] at h
   |some bs=>
    simp only[hx,hl,Option.bind_eq_bind,bnS,Option.pure_def,aK] at h;subst h;cases i with
    |zero=>simp only[List.getElem?_cons_zero,aK] at ha;subst ha;exact⟨b,hx,rfl⟩
    |succ i=>obtain⟨c,h1,h2⟩:=gw hl i a (by simpa using ha);exact⟨c,h1,by simpa using h2⟩
theorem sx{φ w}:∀{xs:List D}{vs:List Value}{ys:List D}{us:List Value},RFs φ w xs vs->RFs φ w ys us->RFs φ w (xs++ys) (vs++us)
 |[],vs,ys,us,h,k=>by simp only[RFs] at h;subst h;exact k
 |x::xs,vs,ys,us,h,k=>by
  simp only[RFs] at h;obtain⟨c,cs,rfl,h1,h2⟩:=h;simp only[List.cons_append,RFs];exact⟨c,cs++us,rfl,h1,sx h2 k⟩
theorem qb{e:TypeId}{α:Type}{E:α->List D}{G:α->Prop}{fuel k:Nat}{b off:Nat}(hk:P.cellsOf e=k)(hE:∀x,(E x).length=k)(he:Reads enc P W spare held fuel e E G):
  ∀n:Nat,(∀i,i<n->∃y,(W.cells? 0 (Addr.add ⟨b,off,none⟩ (i*P.cellsOf e)) (P.cellsOf e)).bind (DataW.trod enc P W 0 spare held fuel e)=some y)->∃L:List α,L.length=n/\REs (bz W) W (L.map E) k b off/\∀x∈L,G x:=by
 intro n;induction n generalizing off with
 |zero=>intro _;exact⟨[],rfl,by simp[REs],sM⟩
 |succ n ih=>
  intro h;obtain⟨y,hy⟩:=h 0 (Nat.succ_pos n);obtain⟨cs,h1,h2⟩:=Option.bind_eq_some_iff.1 hy;obtain⟨x,hx,gx⟩:=he cs y h2;obtain⟨L,l1,l2,l3⟩:=ih (off:=off+k) (λi hi=>by
   obtain⟨y,hy⟩:=h (i+1) oM;refine⟨y,?_⟩;rw[<-hy,hk];rw[dq,dq,Nat.succ_mul,show off+(i*k+k)=off+k+i*k from by omega])
  refine⟨x::L,by simp[l1],?_,λz hz=>by rcases List.mem_cons.1 hz with rfl|hz<;>first|exact gx|exact l3 z hz⟩;simp only[List.map_cons,REs];refine⟨?_,l2⟩;have hcs:∀j,j<k->W.cell? ⟨b,off+j,none⟩=cs[j]? :=by unfold World.cells? at h1;simp only[Nat.zero_le,if_true,Nat.zero_mul] at h1;intro j hj;obtain⟨c,c1,c2⟩:=gw h1 j j (by rw[hk];exact List.getElem?_range hj);rw[c2,<-c1,dq,dq];simp
  have hlen:(E x).length=k:=hE x;clear ih h l1 l2 l3 h1 h2 hy;generalize E x=ps at hx hlen;have key:∀(ps:List D)(cs:List Value)(o:Nat),RFs (bz W) W ps cs->(∀j,j<ps.length->W.cell? ⟨b,o+j,none⟩=cs[j]?)->RPs (bz W) W ps b o:=by
   intro ps;induction ps with
   |nil=>intro cs o _ _;simp[RPs]
   |cons p ps ih=>intro cs o h1 h2;simp only[RFs] at h1;obtain⟨c,cs',rfl,h3,h4⟩:=h1;have h0:=h2 0 sM;simp only[Nat.add_zero,List.getElem?_cons_zero] at h0;simp only[RPs];exact⟨⟨xo h0,c,h0,h3⟩,ih cs' (o+1) h4 (λj hj=>by have:=h2 (j+1) (by simpa using hj);rw[show o+1+j=o+(j+1) from by omega,this];simp)⟩
  exact key ps cs off hx (λj hj=>hcs j oM)
theorem qa{T e:TypeId}{α:Type}{E:α->List D}{G:α->Prop}{k:Nat}(hT:P.underlying T=some (.slice e))(hk:P.cellsOf e=k)(hk0:0<k)(hE:∀x,(E x).length=k){fuel:Nat}(he:Reads enc P W spare held fuel e E G):
  Reads enc P W spare held (fuel+1) T (λL:List α=> [.sl (L.map E)]) (λL=>(∀x∈L,G x)/\L.length<=maxLen):=λcs y h=>by
 rcases cs with _|⟨v,_|⟨v2,r⟩⟩
 simp[DataW.trod,hT] at h;cases v<;>simp only[DataW.trod,hT,reduceCtorEq] at h;rename_i a len cap;cases a with
 |none=>
  rcases len with _|len<;>rcases cap with _|cap<;>simp only[reduceCtorEq] at h
  exact⟨[],by simp only[RFs,RD];exact⟨_,[],rfl, .inl ⟨rfl,none,0,rfl,λ_=>rfl⟩,rfl⟩,sM⟩
 |some a=>
  have h':(if 0<=a.block/\len<=cap/\cap<=maxLen then
   ((List.range len).mapM λi=>(W.cells? 0 (a.add (i*P.cellsOf e)) (P.cellsOf e)).bind (DataW.trod enc P W 0 spare held fuel e)).bind λelems=>
    (if spare a.block then(List.range (cap - len)).mapM λj=>(W.cells? 0 (a.add ((len+j)*P.cellsOf e)) (P.cellsOf e)).bind (DataW.trod enc P W 0 spare held fuel e) else some []).map λrest=>
     (DataW.slice (elems.map (·.1)) (rest.map (·.1)),MemPlace.row a ((elems.length+rest.length)*P.cellsOf e)++(elems++rest).flatMap (·.2)) else none)=some y:=by simpa[DataW.trod,hT] using h
  clear h;split at h';rename_i hc;obtain⟨elems,h1,h2⟩:=Option.bind_eq_some_iff.1 h';have hm:=λi hi=>gw h1 i i (List.getElem?_range (n:=len) hi);by_cases hl:len=0;subst hl;exact⟨[],by simp only[RFs,RD];exact⟨_,[],rfl, .inl ⟨rfl,some a,cap,rfl,λh=>by cases h⟩,rfl⟩,sM,sM⟩;have hs:a.spot=none:=by obtain⟨b,h3,_⟩:=hm 0 oM;obtain⟨cs,h4,_⟩:=Option.bind_eq_some_iff.1 h3;unfold World.cells? at h4;simp only[Nat.zero_le,if_true] at h4;obtain⟨c,c1,_⟩:=gw h4 0 0 (by rw[hk];exact List.getElem?_range hk0);have:=World.cell?_spot c1;simpa[Addr.add] using this
  obtain⟨b,off,sp⟩:=a;simp only at hs;subst hs;obtain⟨L,l1,l2,l3⟩:=qb hk hE he len (λi hi=>by obtain⟨z,h3,_⟩:=hm i hi;exact⟨z,h3⟩);refine⟨L,?_,l3,oM⟩;simp only[RFs,RD];refine⟨_,[],rfl, .inr ⟨b,off,k,cap,by rw[List.length_map,l1],by rw[List.length_map,l1];exact hc.2.1,λx hx=>?_,l2⟩,rfl⟩;obtain⟨z,_,rfl⟩:=List.mem_map.1 hx;exact hE z;cases h'
 simp[DataW.trod,hT] at h
theorem aq{φ w}{cs:List Value}{off n m:Nat}{E F:List D}(h:RFs φ w E ((cs.drop off).take n))(hm:m=off+n)(k:RFs φ w F (cs.drop m)):RFs φ w (E++F) (cs.drop off):=by subst hm;have:=sx h k;rwa [<-List.drop_drop,List.take_append_drop] at this
theorem di{φ w}{cs:List Value}{off:Nat}(h:cs.length=off):RFs φ w [] (cs.drop off):=by rw[List.drop_of_length_le oM];rfl
theorem ce{T:TypeId}{fs:Array Field}{α:Type}{E:α->List D}{G:α->Prop}{fuel:Nat}{n:Nat}(hT:P.underlying T=some (.struct fs))(hn:P.cellsOf T=n)
  (h:∀cs:List Value,cs.length=n->(∀(i:Nat) f,fs[i]? =some f->∃y,DataW.trod enc P W 0 spare held fuel f.type ((cs.drop f.offset).take (P.cellsOf f.type))=some y)->∃x,RFs (bz W) W (E x) cs/\G x):
  Reads enc P W spare held (fuel+1) T E G:=λcs y hy=>by
 simp only[DataW.trod,hT] at hy;split at hy;rename_i hl;obtain⟨xs,h1,_⟩:=Option.map_eq_some_iff.1 hy;refine h cs oM (λi f hf=>?_);obtain⟨b,h2,_⟩:=gw h1 i f (by simpa using hf);exact⟨b,h2⟩;cases hy
theorem tM{T:TypeId}{v:Value}{d:DataW H}{ps:List MemPlace}{α:Type}{E:α->List D}{G:α->Prop}(hr:∀fuel,Reads enc P W spare held fuel T E G)(h:DataW.Trod enc P W 0 spare held T v d ps):∃x,RFs (bz W) W (E x) v.cells.toList/\G x:=by obtain⟨fuel,h⟩:=h;exact hr fuel _ _ h
theorem yp{φ w}{xs:List D}{cs:Array Value}(h:RFs φ w xs (Value.agg cs).cells.toList):RD φ w (.ag xs) (.agg cs):=by simp only[RD];exact⟨cs.toList,rfl,h⟩
theorem bF{T e:TypeId}{α:Type}{E:α->List D}{G:α->Prop}{k:Nat}(hT:P.underlying T=some (.slice e))(hk:P.cellsOf e=k)(hk0:0<k)(hE:∀x,(E x).length=k):∀{fuel:Nat},(∀f,f<fuel->Reads enc P W spare held f e E G)->
  Reads enc P W spare held fuel T (λL:List α=> [.sl (L.map E)]) (λL=>(∀x∈L,G x)/\L.length<=maxLen)
 |0,_=>Reads.zero
 |f+1,he=>qa hT hk hk0 hE (he f (Nat.lt_succ_self f))
theorem rY{T:TypeId}{fs:Array Field}{base:Nat}{v:Value}(hT:P.underlying T=some (.struct fs))(h:Value.okWide P W .any base T v):∃cs,v= .agg cs:=by simp only[Value.okWide,hT] at h;obtain⟨cs,h,_⟩:=h;exact⟨cs,h⟩
theorem nr{t:TypeId}{ts:List TypeId}{vs:List Value}{ds:List (DataW H)}{ps:List MemPlace}(h:DataW.TrodAll enc P W 0 spare held (t::ts) vs ds ps):∃v vs' d ds' p q,vs=v::vs'/\ds=d::ds'/\DataW.Trod enc P W 0 spare held t v d p/\DataW.TrodAll enc P W 0 spare held ts vs' ds' q:=by
 cases vs with
 |nil=>cases ds<;>exact h.elim
 |cons v vs=>
  cases ds with
  |nil=>exact h.elim
  |cons d ds=>obtain⟨p,q,h1,h2,_⟩:=h;exact⟨v,vs,d,ds,p,q,rfl,rfl,h1,h2⟩
theorem oC{vs:List Value}{ds:List (DataW H)}{ps:List MemPlace}(h:DataW.TrodAll enc P W 0 spare held [] vs ds ps):vs=[]:=by
 cases vs with
 |nil=>rfl
 |cons v vs=>cases ds<;>exact h.elim
end
end Go.Sk
namespace Go.Sk
open Go.RowKit (Below)
def fQ:Value:= .slice none 0 0
def AO.mapc(f:AV->AV):AO->AO
 | .row T cs=> .row T (cs.map f)
 | .os T k v es=> .os T k v (es.map λe=>e.map f)
 | .mp es=> .mp (es.map λp=>(p.1,f p.2))
 | .fam T k v ess=> .fam T k v (ess.map λes=>es.map λe=>e.map f)
 | .si s p=> .si s p
 | .mb es xs cl=> .mb es (xs.map f) cl
 | .it src since seen stp=> .it (f src) since seen stp
 | .lp s vs a b=> .lp s (vs.map f) a b
 | .rsv=> .rsv
 | .dead=> .dead
theorem fB{f:AV->AV}{o:AO}:(o.mapc f).live=o.live:=by cases o<;>rfl
theorem RAs.mapc{m m':List Cz}{φ φ':Nat->Nat}{w w':World}{f:AV->AV}(hf:∀x v,RA m φ w x v->RA m' φ' w' (f x) v):∀{xs:List AV}{vs:List Value},RAs m φ w xs vs->RAs m' φ' w' (xs.map f) vs
 |[],vs,h=>by simpa[RAs] using h
 |x::xs,vs,h=>by
  obtain⟨c,cs,rfl,h2,h3⟩:=h;exact bp (hf x c h2) (RAs.mapc hf h3)
theorem eE(f:AV->AV):∀es:List (List AV),(es.map λe=>e.map f).flatten=es.flatten.map f
 |[]=>rfl
 |e::es=>by simp only[List.map_cons,List.flatten_cons,eE f es,List.map_append]
theorem gj{w w':World}{T k n:Nat}{y:Value}{xs:List Value}(h:w.ownsRow 0 T k y n xs)(hb:∀b,y.ownBlock=some b->w'.heap[b]? =w.heap[b]?):w'.ownsRow 0 T k y n xs:=by
 refine⟨h.1,?_⟩;rcases h.2 with g|⟨g,cap,cur,rfl,q1,q2,q3⟩
 exact .inl g;exact .inr ⟨g,cap,cur,rfl,q1,(hb g rfl).trans q2,q3⟩
theorem OR.mapc{m m':List Cz}{φ φ':Nat->Nat}{w w':World}{c:Cz}{o:AO}{f:AV->AV}(h:OR m φ w o c)(hf:∀x v,RA m φ w x v->RA m' φ' w' (f x) v)(hb:∀b,c.has b->w'.heap[b]? =w.heap[b]?/\φ' b=φ b):OR m' φ' w' (o.mapc f) c:=by
 cases o with
 |row T cs=>obtain⟨b,rfl,h0,vs,h1,h2⟩:=h;have:=hb b rfl;exact⟨b,rfl,this.2.trans h0,vs,this.1.trans h1,RAs.mapc hf h2⟩
 |os T k ver es=>obtain⟨y,xs,rfl,h1,h2,h3,h4⟩:=h;refine⟨y,xs,rfl,?_,by rw[eE];exact RAs.mapc hf h2,λe he=>?_,λb hy=>(hb b hy).2.trans (h4 b hy)⟩;rw[List.length_map];exact gj h1 λb hy=>(hb b hy).1;grind
 |mp es=>obtain⟨b,rfl,h0,l,cl,h1,h2,h3,h4⟩:=h;have:=hb b rfl;refine⟨b,rfl,this.2.trans h0,l,cl,this.1.trans h1,by rw[h2];simp,?_,h4⟩;have:=RAs.mapc hf h3;rw[List.map_map] at this⊢;exact this
 |fam T k ver ess=>obtain⟨ys,rfl,h1,h2,h3⟩:=h;refine⟨ys,rfl,by rw[List.length_map];exact h1,λj es y hj hy=>?_,h3⟩;rw[List.getElem?_map,Option.map_eq_some_iff] at hj;obtain⟨es',hj',rfl⟩:=hj;obtain⟨xs,g1,g2,g3,g4⟩:=h2 j es' y hj' hy;have hh:∀b,y.ownBlock=some b->w'.heap[b]? =w.heap[b]?/\φ' b=φ b:=λb hy'=>hb b ⟨y,List.mem_of_getElem? hy,hy'⟩;refine⟨xs,by rw[List.length_map];exact gj g1 λb hy=>(hh b hy).1,by rw[eE];exact RAs.mapc hf g2,λe he=>?_,λb hy'=>(hh b hy').2.trans (g4 b hy')⟩;grind
 |si s p=>obtain⟨b,rfl,h0,h1⟩:=h;have:=hb b rfl;exact⟨b,rfl,this.2.trans h0,this.1.trans h1⟩
 |mb es xs cl=>obtain⟨b,rfl,h0,l,h1,h2,h3⟩:=h;have:=hb b rfl;exact⟨b,rfl,this.2.trans h0,l,this.1.trans h1,h2,RAs.mapc hf h3⟩
 |it src since seen stp=>obtain⟨b,rfl,h0,sb,h1,h2⟩:=h;have:=hb b rfl;exact⟨b,rfl,this.2.trans h0,sb,this.1.trans h1,hf _ _ h2⟩
 |lp s vs a b=>obtain⟨b,rfl,h0,r,us,h1,h2,h3⟩:=h;have:=hb b rfl;exact⟨b,rfl,this.2.trans h0,r,us,this.1.trans h1,h2,RAs.mapc hf h3⟩
 |rsv=>exact h
 |dead=>trivial
def jV(fid ver j nid:Nat):AV->AV
 | .osf f i v=>if f=fid/\v=ver then(if i=j then .os nid 0 else .osf fid i (ver+1)) else .osf f i v
 |x=>x
theorem rR{v:Nat}{ys ys':List Value}:(Cz.fam v ys).le (.fam (v+1) ys'):= .inr ⟨v+1,ys',rfl,Nat.lt_succ_self v⟩
theorem cQ{b:Nat}(h:fQ.ownBlock=some b):False:=by simp[fQ,Value.ownBlock] at h
theorem vF{m φ st w}{fid oid j T k ver:Nat}{ess:List (List (List AV))}{es:List (List AV)}{o:AO}(hs:SR m φ st w)(hf:st[fid]? =some (.fam T k ver ess))(ho:st[oid]? =some o)(hne:oid≠fid)(hj:ess[j]? =some es):
  ∃m' y,m[fid]? =some (.fam ver y)/\Ev m φ w m' φ w/\SR m' φ ((((st.set fid (.fam T k (ver+1) (ess.set j []))).set oid (o.mapc (jV fid ver j st.length)))++ [.os T k 0 es])) w/\
   (∀v,y[j]? =some v->RA m' φ w (.os st.length 0) v):=by
 have hfl:=(giS.1 hf).1;obtain⟨c,hc⟩:∃c,m[fid]? =some c:=⟨_,geG (by rw[hs.len];exact hfl)⟩;obtain⟨ys,rfl,h1,h2,h3⟩:=hs.obj fid _ c hf hc;have hjl:j<ys.length:=by grind
 obtain⟨y,hy⟩:∃y,ys[j]? =some y:=⟨_,geG hjl⟩;let m1:=m.set fid (.fam (ver+1) (ys.set j fQ));let m':=m1++ [Cz.tok 0 y];have hml:m1.length=st.length:=by simp[m1,hs.len]
 have hnid:m'[st.length]? =some (.tok 0 y):=by simp[m',<-hml]
 have hfid:m'[fid]? =some (.fam (ver+1) (ys.set j fQ)):=by grind
 have hoth:∀i,i<st.length->i≠fid->m'[i]? =m[i]? :=by grind
 have hpre:Pre m m':=λi d hd=>by
  grind [rR,Cz.le_refl]
 have hmem:∀z,z∈ys.set j fQ->z∈ys\/z=fQ:=by grind
 have hfh:∀b,(Cz.fam (ver+1) (ys.set j fQ)).has b->(Cz.fam ver ys).has b:=by
  rintro b ⟨z,hz,hb⟩;rcases hmem z hz with h|h
  exact⟨z,h,hb⟩;grind [cQ]
 have hyh:∀b,(Cz.tok 0 y).has b->(Cz.fam ver ys).has b:=λb hb=>⟨y,List.mem_of_getElem? hy,hb⟩;have hsplit:∀b,(Cz.fam (ver+1) (ys.set j fQ)).has b->(Cz.tok 0 y).has b->False:=by rintro b ⟨z,hz,hb⟩ hb2;obtain⟨i,hi⟩:=List.mem_iff_getElem?.1 hz;by_cases hij:i=j;grind [cQ];rw[List.getElem?_set_ne (Ne.symm hij)] at hi;exact hij (h3 i j z y b hi hy hb hb2)
 have hre:∀x v,RA m φ w x v->RA m' φ w (jV fid ver j st.length x) v:=by
  intro x v hx;have hm:=RA.mono hpre (Fz.refl φ w) x v hx;cases x with
  |osf f i vv=>simp only[jV];split;rename_i hcond;obtain⟨rfl,rfl⟩:=hcond;simp only[RA] at hx;obtain⟨v0,ys0,q1,q2,q3⟩:=hx;rw[hc] at q1;simp only[aK,Cz.fam.injEq] at q1;obtain⟨rfl,rfl⟩:=q1;grind [RA];exact hm
  |_=>exact hm
 have hstf:((st.set fid (.fam T k (ver+1) (ess.set j []))).set oid (o.mapc (jV fid ver j st.length))).length=st.length:=sM;have hol:=(giS.1 ho).1;have get:∀(i:Nat)(p:AO),(((st.set fid (.fam T k (ver+1) (ess.set j []))).set oid (o.mapc (jV fid ver j st.length)))++ [AO.os T k 0 es])[i]? =some p->
   (i=st.length/\p= .os T k 0 es)\/(i=fid/\p= .fam T k (ver+1) (ess.set j []))\/(i=oid/\p=o.mapc (jV fid ver j st.length))\/(i<st.length/\i≠fid/\i≠oid/\st[i]? =some p):=by
  intro i p hp;rcases Nat.lt_trichotomy i st.length with h|h|h
  rw[List.getElem?_append_left (by rw[hstf];exact h)] at hp;by_cases hio:i=oid;grind;grind;grind;rw[List.getElem?_eq_none (by simp;omega)] at hp;cases hp
 have hnw:∀b,In m' b->In m b:=by
  rintro b ⟨i,d,hd,hb⟩;rcases Nat.lt_trichotomy i st.length with h|h|h
  by_cases hif:i=fid;subst hif;rw[hfid] at hd;obtain rfl:=inS hd;exact⟨i,_,hc,hfh b hb⟩;rw[hoth i h hif] at hd;exact⟨i,d,hd,hb⟩;subst h;rw[hnid] at hd;obtain rfl:=inS hd;exact⟨fid,_,hc,hyh b hb⟩;rw[List.getElem?_eq_none (by simp[m',hml];omega)] at hd;cases hd
 refine⟨m',ys,hc,⟨hpre,λb h=> .inl (hnw b h),rfl,rfl,rfl,Nat.le_refl _,λ_ _ _=>⟨rfl,rfl⟩,Fz.refl φ w⟩,⟨?_,?_,hs.lt,?_,hs.gl,λb h=>hs.nb b (hnw b h)⟩,?_⟩;simp[m',hml];intro i p d hp hd;rcases get i p hp with⟨rfl,rfl⟩|⟨rfl,rfl⟩|⟨rfl,rfl⟩|⟨g1,g2,g3,g4⟩
 rw[hnid] at hd;obtain rfl:=inS hd;obtain⟨xs,q1,q2,q3,q4⟩:=h2 j es y hj hy;exact⟨y,xs,rfl,q1,RAs.mono hpre (Fz.refl φ w) _ _ q2,q3,q4⟩;rw[hfid] at hd;obtain rfl:=inS hd;refine⟨_,rfl,by simp[h1],λi' es' y' hi' hy'=>?_,λa b z z' bb ha hb hz hz'=>?_⟩;by_cases hij:i'=j;subst hij;rw[List.getElem?_set_self (by rw[<-h1];exact hjl)] at hi';rw[List.getElem?_set_self hjl] at hy';obtain rfl:=inS hi';obtain rfl:=inS hy';exact⟨[],World.ownsRow_nil w 0 T k,by simp[RAs],sM,λb hb=>(cQ hb).elim⟩;rw[List.getElem?_set_ne (Ne.symm hij)] at hi' hy';obtain⟨xs,q1,q2,q3,q4⟩:=h2 i' es' y' hi' hy';exact⟨xs,q1,RAs.mono hpre (Fz.refl φ w) _ _ q2,q3,q4⟩;have back:∀(a:Nat)(z:Value),(ys.set j fQ)[a]? =some z->z.ownBlock=some bb->ys[a]? =some z:=λa z ha hz=>by
  by_cases haj:a=j;grind [cQ];grind
 exact h3 a b z z' bb (back a z ha hz) (back b z' hb hz') hz hz';rw[hoth i hol hne] at hd;exact(hs.obj i o d ho hd).mapc hre (λ_ _=>⟨rfl,rfl⟩);rw[hoth i g1 g2] at hd;have h:=hs.obj i p d g4 hd;exact h.congr hpre (Fz.refl φ w) (λ_ _=>⟨rfl,rfl⟩)
 -- no block in two objects
 have src:∀(i:Nat)(p:AO)(d:Cz)(b:Nat),(((st.set fid (.fam T k (ver+1) (ess.set j []))).set oid (o.mapc (jV fid ver j st.length)))++ [AO.os T k 0 es])[i]? =some p->p.live=true->m'[i]? =some d->d.has b->
   ∃(i0:Nat)(p0:AO)(d0:Cz),st[i0]? =some p0/\p0.live=true/\m[i0]? =some d0/\d0.has b/\((i=st.length/\i0=fid/\d= .tok 0 y)\/(i=fid/\i0=fid/\d= .fam (ver+1) (ys.set j fQ))\/(i=i0/\i≠fid/\i≠st.length)):=by
  intro i p d b hp hl hd hb;rcases get i p hp with⟨rfl,rfl⟩|⟨rfl,rfl⟩|⟨rfl,rfl⟩|⟨g1,g2,g3,g4⟩
  rw[hnid] at hd;obtain rfl:=inS hd;exact⟨fid,_,_,hf,rfl,hc,hyh b hb, .inl ⟨rfl,rfl,rfl⟩⟩;rw[hfid] at hd;obtain rfl:=inS hd;exact⟨_,_,_,hf,rfl,hc,hfh b hb, .inr (.inl ⟨rfl,rfl,rfl⟩)⟩;grind [fB];grind
 intro i i' p p' d d' b hp hp' l l' hd hd' hb hb';obtain⟨i0,p0,d0,a1,a2,a3,a4,a5⟩:=src i p d b hp l hd hb;obtain⟨i1,p1,d1,b1,b2,b3,b4,b5⟩:=src i' p' d' b hp' l' hd' hb';have e:=hs.inj i0 i1 p0 p1 d0 d1 b a1 b1 a2 b2 a3 b3 a4 b4;rcases a5 with⟨a6,a7,a8⟩|⟨a6,a7,a8⟩|⟨a6,a7,a8⟩<;>rcases b5 with⟨b6,b7,b8⟩|⟨b6,b7,b8⟩|⟨b6,b7,b8⟩;omega;subst a8;subst b8;exact(hsplit b hb' hb).elim;omega;subst a8;subst b8;exact(hsplit b hb hb').elim;omega;omega;omega;omega;omega;grind [RA]
def oS(fid ver nid v j:Nat):AV->AV
 | .osf f i v'=>if f=fid/\v'=ver/\i≠j then .osf fid i (ver+1) else .osf f i v'
 | .os n v'=>if n=nid/\v'=v then .osf fid j (ver+1) else .os n v'
 |x=>x
theorem xg{m φ st w}{fid oid nid j T k ver v:Nat}{ess:List (List (List AV))}{es:List (List AV)}{o:AO}(hs:SR m φ st w)(hf:st[fid]? =some (.fam T k ver ess))(hn:st[nid]? =some (.os T k v es))(ho:st[oid]? =some o)(hne:oid≠fid)(hne2:oid≠nid)(hj:j<ess.length):
  ∃m',Ev m φ w m' φ w/\SR m' φ (((st.set fid (.fam T k (ver+1) (ess.set j es))).set nid .dead).set oid (o.mapc (oS fid ver nid v j))) w:=by
 have hfl:=(giS.1 hf).1;have hnl:=(giS.1 hn).1;have hol:=(giS.1 ho).1;have hfn:fid≠nid:=λh=>by subst h;rw[hf] at hn;cases hn
 obtain⟨c,hc⟩:∃c,m[fid]? =some c:=⟨_,geG (by rw[hs.len];exact hfl)⟩;obtain⟨ys,rfl,h1,h2,h3⟩:=hs.obj fid _ c hf hc;obtain⟨cn,hcn⟩:∃c,m[nid]? =some c:=⟨_,geG (by rw[hs.len];exact hnl)⟩;obtain⟨y,xs,rfl,k1,k2,k3,k4⟩:=hs.obj nid _ cn hn hcn;have hjl:j<ys.length:=by rw[h1];exact hj
 let m':=m.set fid (.fam (ver+1) (ys.set j y));have hfid:m'[fid]? =some (.fam (ver+1) (ys.set j y)):=by simp[m',hs.len,hfl]
 have hoth:∀i,i≠fid->m'[i]? =m[i]? :=λi hif=>by simp only[m'];rw[List.getElem?_set_ne (Ne.symm hif)]
 have hpre:Pre m m':=λi d hd=>by
  by_cases hif:i=fid;subst hif;rw[hc] at hd;obtain rfl:=inS hd;exact⟨_,hfid,rR⟩;exact⟨d,by rw[hoth i hif];exact hd,Cz.le_refl d⟩
 have hsrc:∀b,(Cz.fam (ver+1) (ys.set j y)).has b->(Cz.fam ver ys).has b\/(Cz.tok v y).has b:=by
  rintro b ⟨z,hz,hb⟩;rcases List.mem_or_eq_of_mem_set hz with h|h
  exact .inl ⟨z,h,hb⟩;subst h;exact .inr hb
 have hre:∀x u,RA m φ w x u->RA m' φ w (oS fid ver nid v j x) u:=by
  intro x u hx;have hm:=RA.mono hpre (Fz.refl φ w) x u hx;cases x with
  |osf f i vv=>simp only[oS];split;rename_i hcond;obtain⟨rfl,rfl,hij⟩:=hcond;simp only[RA] at hx⊢;obtain⟨v0,ys0,q1,q2,q3⟩:=hx;rw[hc] at q1;simp only[aK,Cz.fam.injEq] at q1;obtain⟨rfl,rfl⟩:=q1;exact⟨_,_,hfid,Nat.le_refl _,λ_=>by rw[List.getElem?_set_ne λh=>hij h.symm];exact q3 rfl⟩;exact hm
  |os n vv=>simp only[oS];split;rename_i hcond;obtain⟨rfl,rfl⟩:=hcond;simp only[RA] at hx⊢;obtain⟨v0,y0,q1,q2,q3⟩:=hx;rw[hcn] at q1;simp only[aK,Cz.tok.injEq] at q1;obtain⟨rfl,rfl⟩:=q1;have:=q3 rfl;subst this;exact⟨_,_,hfid,Nat.le_refl _,λ_=>List.getElem?_set_self hjl⟩;exact hm
  |_=>exact hm
 have get:∀(i:Nat)(p:AO),(((st.set fid (.fam T k (ver+1) (ess.set j es))).set nid .dead).set oid (o.mapc (oS fid ver nid v j)))[i]? =some p->
   (i=oid/\p=o.mapc (oS fid ver nid v j))\/(i=nid/\p= .dead)\/(i=fid/\p= .fam T k (ver+1) (ess.set j es))\/(i≠fid/\i≠nid/\i≠oid/\st[i]? =some p):=by
  intro i p hp;by_cases hio:i=oid;subst hio;rw[List.getElem?_set_self (by simpa using hol)] at hp;exact .inl ⟨rfl,(inS hp).symm⟩;rw[List.getElem?_set_ne (Ne.symm hio)] at hp;by_cases hin:i=nid;subst hin;rw[List.getElem?_set_self (by simpa using hnl)] at hp;exact .inr (.inl ⟨rfl,(inS hp).symm⟩);rw[List.getElem?_set_ne (Ne.symm hin)] at hp;by_cases hif:i=fid;subst hif;rw[List.getElem?_set_self hfl] at hp;exact .inr (.inr (.inl ⟨rfl,(inS hp).symm⟩));rw[List.getElem?_set_ne (Ne.symm hif)] at hp;exact .inr (.inr (.inr ⟨hif,hin,hio,hp⟩))
 have hnw:∀b,In m' b->In m b:=by
  rintro b ⟨i,d,hd,hb⟩;by_cases hif:i=fid;subst hif;rw[hfid] at hd;obtain rfl:=inS hd;rcases hsrc b hb with h|h
  exact⟨i,_,hc,h⟩;exact⟨nid,_,hcn,h⟩;rw[hoth i hif] at hd;exact⟨i,d,hd,hb⟩
 refine⟨m',⟨hpre,λb h=> .inl (hnw b h),rfl,rfl,rfl,Nat.le_refl _,λ_ _ _=>⟨rfl,rfl⟩,Fz.refl φ w⟩,⟨by simp[m',hs.len],?_,hs.lt,?_,hs.gl,λb h=>hs.nb b (hnw b h)⟩⟩;intro i p d hp hd;rcases get i p hp with⟨rfl,rfl⟩|⟨rfl,rfl⟩|⟨rfl,rfl⟩|⟨g1,g2,g3,g4⟩
 rw[hoth i hne] at hd;exact(hs.obj i o d ho hd).mapc hre (λ_ _=>⟨rfl,rfl⟩);trivial;rw[hfid] at hd;obtain rfl:=inS hd;refine⟨_,rfl,by simp[h1],λi' es' y' hi' hy'=>?_,λa b z z' bb ha hb hz hz'=>?_⟩;by_cases hij:i'=j;subst hij;rw[List.getElem?_set_self hj] at hi';rw[List.getElem?_set_self hjl] at hy';obtain rfl:=inS hi';obtain rfl:=inS hy';exact⟨xs,k1,RAs.mono hpre (Fz.refl φ w) _ _ k2,k3,k4⟩;rw[List.getElem?_set_ne (Ne.symm hij)] at hi' hy';obtain⟨xs,q1,q2,q3,q4⟩:=h2 i' es' y' hi' hy';exact⟨xs,q1,RAs.mono hpre (Fz.refl φ w) _ _ q2,q3,q4⟩;have cross:∀(a:Nat)(z:Value),a≠j->(ys.set j y)[a]? =some z->z.ownBlock=some bb->y.ownBlock=some bb->False:=λa z haj ha hz hy=>by
  rw[List.getElem?_set_ne (Ne.symm haj)] at ha;exact hfn (hs.inj _ nid _ _ (.fam _ ys) (.tok v y) bb hf hn rfl rfl hc hcn ⟨z,List.mem_of_getElem? ha,hz⟩ hy)
 by_cases haj:a=j;subst haj;rw[List.getElem?_set_self hjl] at ha;obtain rfl:=inS ha;by_cases hbj:b=a;exact hbj.symm;exact(cross b z' hbj hb hz' hz).elim;by_cases hbj:b=j;subst hbj;rw[List.getElem?_set_self hjl] at hb;obtain rfl:=inS hb;exact(cross a z haj ha hz hz').elim;rw[List.getElem?_set_ne (Ne.symm haj)] at ha;rw[List.getElem?_set_ne (Ne.symm hbj)] at hb;exact h3 a b z z' bb ha hb hz hz';rw[hoth i g1] at hd;exact(hs.obj i p d g4 hd).congr hpre (Fz.refl φ w) (λ_ _=>⟨rfl,rfl⟩);have src:∀(i:Nat)(p:AO)(d:Cz)(b:Nat),(((st.set fid (.fam T k (ver+1) (ess.set j es))).set nid .dead).set oid (o.mapc (oS fid ver nid v j)))[i]? =some p->p.live=true->m'[i]? =some d->d.has b->
   ∃(i0:Nat)(p0:AO)(d0:Cz),st[i0]? =some p0/\p0.live=true/\m[i0]? =some d0/\d0.has b/\((i=fid/\(i0=fid\/i0=nid))\/(i=i0/\i≠fid/\i≠nid)):=by
  intro i p d b hp hl hd hb;rcases get i p hp with⟨rfl,rfl⟩|⟨rfl,rfl⟩|⟨rfl,rfl⟩|⟨g1,g2,g3,g4⟩
  rw[hoth i hne] at hd;exact⟨i,o,d,ho,by rwa [fB] at hl,hd,hb, .inr ⟨rfl,hne,hne2⟩⟩;cases hl;rw[hfid] at hd;obtain rfl:=inS hd;rcases hsrc b hb with h|h
  exact⟨_,_,_,hf,rfl,hc,h, .inl ⟨rfl, .inl rfl⟩⟩;exact⟨_,_,_,hn,rfl,hcn,h, .inl ⟨rfl, .inr rfl⟩⟩;rw[hoth i g1] at hd;exact⟨i,p,d,g4,hl,hd,hb, .inr ⟨rfl,g1,g2⟩⟩
 intro i i' p p' d d' b hp hp' l l' hd hd' hb hb';obtain⟨i0,p0,d0,a1,a2,a3,a4,a5⟩:=src i p d b hp l hd hb;obtain⟨i1,p1,d1,b1,b2,b3,b4,b5⟩:=src i' p' d' b hp' l' hd' hb';have e:=hs.inj i0 i1 p0 p1 d0 d1 b a1 b1 a2 b2 a3 b3 a4 b4;rcases a5 with⟨a6,a7⟩|⟨a6,a7,a8⟩<;>rcases b5 with⟨b6,b7⟩|⟨b6,b7,b8⟩
 omega;omega;omega;omega
def ub(fid ver:Nat)(dss:List (List (List D))):AV->AV
 | .osf f i v=>if f=fid/\v=ver/\i<dss.length then .d (.sl (dss.getD i [])) else .osf f i v
 |x=>x
theorem xh{m φ st w}{fid oid T k ver:Nat}{dss:List (List (List D))}{o:AO}(hs:SR m φ st w)(hf:st[fid]? =some (.fam T k ver (dss.map λds=>ds.map λe=>e.map AV.d)))(ho:st[oid]? =some o)(hne:oid≠fid):
  ∃φ',Ev m φ w m φ' w/\SR m φ' ((st.set fid .dead).set oid (o.mapc (ub fid ver dss))) w:=by
 have hfl:=(giS.1 hf).1;have hol:=(giS.1 ho).1;obtain⟨c,hc⟩:∃c,m[fid]? =some c:=⟨_,geG (by rw[hs.len];exact hfl)⟩;obtain⟨ys,rfl,h1,h2,h3⟩:=hs.obj fid _ c hf hc;rw[List.length_map] at h1;let φ':Nat->Nat:=λb=>match ys.findIdx? (λy=>decide (y.ownBlock=some b)) with
  |some j=>(dss.getD j []).length*k
  |none=>φ b
 have at_:∀(j:Nat)(y:Value)(b:Nat),ys[j]? =some y->y.ownBlock=some b->φ' b=(dss.getD j []).length*k:=λj y b hj hb=>by
  have hjl:=(giS.1 hj).1;have:ys.findIdx? (λy=>decide (y.ownBlock=some b))=some j:=by rw[List.findIdx?_eq_some_iff_getElem];refine⟨hjl,?_,λi hi=>?_⟩;have:=(giS.1 hj).2;rw[this];simpa using hb;simp only[decide_eq_true_eq];intro hbi;have:=h3 i j ys[i] y b (geG oM) hj hbi hb;omega
  show(match ys.findIdx? (λy=>decide (y.ownBlock=some b)) with
   |some j=>(dss.getD j []).length*k
   |none=>φ b)=_
  rw[this]
 have off_:∀b,¬(Cz.fam ver ys).has b->φ' b=φ b:=λb hb=>by
  have:ys.findIdx? (λy=>decide (y.ownBlock=some b))=none:=by rw[List.findIdx?_eq_none_iff];intro y hy;simp only[decide_eq_false_iff_not];exact λh=>hb ⟨y,hy,h⟩
  show(match ys.findIdx? (λy=>decide (y.ownBlock=some b)) with
   |some j=>(dss.getD j []).length*k
   |none=>φ b)=_
  rw[this]
 have memb:∀(j:Nat)(y:Value),ys[j]? =some y->∃ds xs,dss[j]? =some ds/\w.ownsRow 0 T k y ds.length xs/\RFs φ w ds.flatten xs/\(∀e∈ds,e.length=k)/\∀b,y.ownBlock=some b->φ b=0:=λj y hj=>by
  have hjl:j<dss.length:=by rw[<-h1];exact(giS.1 hj).1
  obtain⟨xs,q1,q2,q3,q4⟩:=h2 j _ y (by rw[List.getElem?_map,geG hjl];rfl) hj;refine⟨dss[j],xs,geG hjl,by simpa using q1,?_,λe he=>?_,q4⟩;have hfl:(dss[j].map λe=>e.map AV.d).flatten=dss[j].flatten.map AV.d:=by simp[List.map_flatten]
  rw[hfl] at q2;exact cV q2;have:=q3 (e.map AV.d) (List.mem_map_of_mem he);simpa using this
 have zero:∀b,(Cz.fam ver ys).has b->φ b=0:=by rintro b ⟨y,hy,hb⟩;obtain⟨j,hj⟩:=List.mem_iff_getElem?.1 hy;obtain⟨ds,xs,_,_,_,_,q⟩:=memb j y hj;exact q b hb
 have hF:Fz φ w φ' w:=λb off cc g1 g2=>by
  refine⟨?_,g2⟩;rw[off_ b (λh=>by have:=zero b h;omega)];exact g1
 have hlt:∀b,w.heap.size<=b->φ' b=0:=λb hb=>by
  by_cases h:(Cz.fam ver ys).has b;have:=(hs.obj fid _ _ hf hc).block_lt rfl h;omega;rw[off_ b h];exact hs.lt b hb
 have data:∀(j:Nat)(y:Value),ys[j]? =some y->RD φ' w (.sl (dss.getD j [])) y:=λj y hj=>by
  obtain⟨ds,xs,q0,q1,q2,q3,q4⟩:=memb j y hj;have hg:dss.getD j []=ds:=by rw[List.getD_eq_getElem?_getD,q0,Option.getD_some]
  rw[hg];have q2':=RFs.mono hF _ _ q2;simp only[RD];rcases q1.2 with⟨rfl,hn⟩|⟨g,cap,cur,rfl,_,hgc,hnc,_,_,_⟩
  exact .inl ⟨List.eq_nil_of_length_eq_zero hn,none,0,rfl,λ_=>rfl⟩;refine .inr ⟨g,0,k,cap,rfl,hnc,q3,fy q3 q2' λi v hi=>⟨?_,?_⟩⟩;rw[at_ j _ g hj rfl,hg];have:=gn hi;have:=q1.1;omega;have:=dG q1 hi;simpa using this
 have hre:∀x v,RA m φ w x v->RA m φ' w (ub fid ver dss x) v:=by
  intro x v hx;have hm:=RA.mono (Pre.refl m) hF x v hx;cases x with
  |osf f i vv=>simp only[ub];split;rename_i hcond;obtain⟨rfl,rfl,hi⟩:=hcond;simp only[RA] at hx⊢;obtain⟨v0,ys0,q1,q2,q3⟩:=hx;rw[hc] at q1;simp only[aK,Cz.fam.injEq] at q1;obtain⟨rfl,rfl⟩:=q1;exact data i v (q3 rfl);exact hm
  |_=>exact hm
 have hk:∀(i:Nat)(p:AO)(d:Cz)(b:Nat),i≠fid->st[i]? =some p->p.live=true->m[i]? =some d->d.has b->w.heap[b]? =w.heap[b]?/\φ' b=φ b:=λi p d b hif h1 hl h2 hb=>
  ⟨rfl,off_ b λh=>hif (hs.inj i fid p _ d _ b h1 hf hl rfl h2 hc hb h)⟩
 refine⟨φ',⟨Pre.refl m,λb h=> .inl h,rfl,rfl,rfl,Nat.le_refl _,λb _ hb=>⟨rfl,off_ b λh=>hb ⟨fid,_,hc,h⟩⟩,hF⟩,⟨by simp[hs.len],λi p d hp hd=>?_,hlt,λi i' p p' d d' b hp hp' l l' hd hd' hb hb'=>?_,hs.gl.mono hF,hs.nb⟩⟩;by_cases hio:i=oid;subst hio;rw[List.getElem?_set_self (by simpa using hol)] at hp;obtain rfl:=inS hp;have h:=hs.obj i o d ho hd;cases hl:o.live with
 |true=>exact h.mapc hre (λb hb=>hk i o d b hne ho hl hd hb)
 |false=>cases o<;>first|trivial|exact h|(simp[AO.live] at hl;done)
 rw[List.getElem?_set_ne (Ne.symm hio)] at hp;by_cases hif:i=fid;subst hif;rw[List.getElem?_set_self hfl] at hp;obtain rfl:=inS hp;trivial;rw[List.getElem?_set_ne (Ne.symm hif)] at hp;have h:=hs.obj i p d hp hd;cases hl:p.live with
 |true=>exact h.congr (Pre.refl m) hF (λb hb=>hk i p d b hif hp hl hd hb)
 |false=>cases p<;>first|trivial|exact h|(simp[AO.live] at hl;done)
 have back:∀(i:Nat)(p:AO),((st.set fid .dead).set oid (o.mapc (ub fid ver dss)))[i]? =some p->p.live=true->∃p0,st[i]? =some p0/\p0.live=true:=by intro i p hp hl;by_cases hio:i=oid;subst hio;rw[List.getElem?_set_self (by simpa using hol)] at hp;obtain rfl:=inS hp;exact⟨o,ho,by rwa [fB] at hl⟩;rw[List.getElem?_set_ne (Ne.symm hio)] at hp;by_cases hif:i=fid;subst hif;rw[List.getElem?_set_self hfl] at hp;obtain rfl:=inS hp;cases hl;rw[List.getElem?_set_ne (Ne.symm hif)] at hp;exact⟨p,hp,hl⟩
 obtain⟨p0,a1,a2⟩:=back i p hp l;obtain⟨p1,b1,b2⟩:=back i' p' hp' l';exact hs.inj i i' p0 p1 d d' b a1 b1 a2 b2 hd hd' hb hb'
end Go.Sk
namespace Go.Sk
open Go.RowKit (Below)
def bf(fid ver n:Nat):List (List AV):=(List.range n).map λi=> [AV.osf fid i ver]
abbrev bu{α:Type}(R:α->List D)(L:List (List α)):List (List (List AV)):=L.map λl=>l.map (aS R)
theorem fa(fid ver n:Nat):(bf fid ver n).length=n:=by simp[bf]
theorem iI{fid ver n:Nat}:∀e∈bf fid ver n,e.length=1:=λe he=>by
 simp only[bf,List.mem_map] at he;obtain⟨i,_,rfl⟩:=he;rfl
theorem mL{α:Type}:∀{es:List (List α)}{i:Nat}{x:α},(∀e∈es,e.length=1)->es[i]? =some [x]->es.flatten[i]? =some x
 |[],i,x,_,h=>by simp at h
 |e::es,i,x,hl,h=>by
  have he:=hl e sM;match e,he with
  |[y],_=>
   cases i with
   |zero=>simp_all
   |succ i=>simp only[List.getElem?_cons_succ] at h;simpa using mL (λe he=>hl e (by simp[he])) h
theorem vJ{fid ver n i:Nat}(hi:i<n):(bf fid ver n).flatten[i]? =some (.osf fid i ver):=
 mL iI (by simp[bf,hi])
theorem qz{fid ver n j:Nat}{x:AV}:∀e∈(bf fid ver n).set j [x],e.length=1:=by grind [iI]
theorem vH{fid ver n j:Nat}{x:AV}(hj:j<n):((bf fid ver n).set j [x]).flatten[j]? =some x:=
 mL qz (by rw[List.getElem?_set_self (by rw[fa];exact hj)])
theorem ue{fid ver n j nid:Nat}(_hj:j<n):((bf fid ver n).map λe=>e.map (jV fid ver j nid))=(bf fid (ver+1) n).set j [.os nid 0]:=by apply List.ext_getElem?;intro i;simp only[bf,List.map_map,List.getElem?_map,List.getElem?_set,List.length_map,List.length_range];grind [jV]
theorem vI{fid ver n j nid v:Nat}(_hj:j<n):(((bf fid ver n).set j [.os nid v]).map λe=>e.map (oS fid ver nid v j))=bf fid (ver+1) n:=by apply List.ext_getElem?;intro i;simp only[bf,List.getElem?_map,List.getElem?_set,List.length_map,List.length_range];grind [oS]
theorem vK{fid ver:Nat}{dss:List (List (List D))}:((bf fid ver dss.length).map λe=>e.map (ub fid ver dss))=dss.map λds=> [AV.d (.sl ds)]:=by apply List.ext_getElem?;intro i;grind [bf,ub]
section
variable{P:Program}{e:En}{ops:Array Oper}{l rest:List Oper}{env:Env}{st:List AO}{R:Env->List AO->Prop}{K:Ko}
def Gh(e:En)(env:Env)(st:List AO)(env':Env)(st':List AO):Prop:=∀m φ a w,Inv e m φ env st a w->∃m' φ',Inv e m' φ' env' st' a w
theorem ou{c:Code}{env':Env}{st':List AO}(h:Gh e env st env' st')(k:WC P e c K env' st'):WC P e c K env st:=λm φ a w hi=>
 let ⟨m',φ',hi'⟩:=h m φ a w hi
 k m' φ' a w hi'
theorem ng{env':Env}{st':List AO}(h:Gh e env st env' st')(k:WL P e ops l env' st' R):WL P e ops l env st R:=λm φ a w hi=>
 let ⟨m',φ',hi'⟩:=h m φ a w hi
 k m' φ' a w hi'
theorem kC{x:Exit}{env':Env}{st':List AO}(h:Gh e env st env' st')(k:WE P e x K env' st'):WE P e x K env st:=λm φ a w hi=>
 let ⟨m',φ',hi'⟩:=h m φ a w hi
 k m' φ' a w hi'
theorem rP(T k:Nat):Gh e env st env (st++ [.os T k 0 []]):=λ_ _ _ _ hi=>
 let ⟨h1,h2⟩:=oD (T:=T) (k:=k) hi.sr
 ⟨_,_,hi.go h1 h2⟩
theorem qx{m φ st w}{T k:Nat}(n:Nat)(hs:SR m φ st w):Ev m φ w (m++ [.fam 0 (List.replicate n fQ)]) φ w/\SR (m++ [.fam 0 (List.replicate n fQ)]) φ (st++ [.fam T k 0 (List.replicate n [])]) w:=by
 have hnew:∀b,(Cz.fam 0 (List.replicate n fQ)).has b->w.heap.size<=b:=by rintro b ⟨y,hy,hb⟩;grind [cQ]
 refine⟨Ev.push hs (Fz.refl φ w) (λ_ _=>rfl) (Nat.le_refl _) rfl rfl rfl hnew,SR.push hs (Fz.refl φ w) (λ_ _=>rfl) (Nat.le_refl _) ?_ hnew⟩;refine⟨_,rfl,sM,λj es y hj hy=>?_,λi j y y' b hi _ hb _=>?_⟩;rw[List.getElem?_replicate] at hj hy;split at hj;rename_i hl;rw[if_pos hl] at hy;obtain rfl:=inS hj;obtain rfl:=inS hy;exact⟨[],World.ownsRow_nil w 0 T k,by simp[RAs],sM,λb hb=>(cQ hb).elim⟩;cases hj;grind [cQ]
theorem qr(T k:Nat):Gh e env st env (st++ [.fam T k 0 []]):=λ_ _ _ _ hi=>
 let ⟨h1,h2⟩:=qx (T:=T) (k:=k) 0 hi.sr
 ⟨_,_,hi.go h1 h2⟩
theorem rQ{α:Type}(E:α->List D)(oid T k:Nat){To v n:Nat}(hs:st[oid]? =some (.os To 1 v (List.replicate n [.d (.v (.slice none 0 0))]))):
  Gh e env st env ((st.set oid (.os To 1 v (bf st.length 0 (List.replicate n ([]:List α)).length)))++ [.fam T k 0 (bu E (List.replicate n []))]):=λm φ a w hi=>by
 obtain⟨h1,h2⟩:=qx (T:=T) (k:=k) n hi.sr;have h3:=hi.go h1 h2;have hol:=(giS.1 hs).1;have ho:(st++ [AO.fam T k 0 (List.replicate n [])])[oid]? =some (.os To 1 v (List.replicate n [.d (.v (.slice none 0 0))])):=by grind
 have h4:=h3.sr.alter (o':= .os To 1 v (bf st.length 0 n)) ho rfl (λc hc=>by
  rintro⟨y,xs,rfl,q1,q2,q3,q4⟩;refine⟨y,xs,rfl,by rw[fa];simpa using q1,?_,iI,q4⟩;have hf:(m++ [Cz.fam 0 (List.replicate n fQ)])[st.length]? =some (.fam 0 (List.replicate n fQ)):=by rw[<-hi.sr.len];simp
  have key:∀(l:List Nat)(vs:List Value),(∀i∈l,i<n)->RAs (m++ [Cz.fam 0 (List.replicate n fQ)]) φ w (List.replicate l.length [AV.d (.v (.slice none 0 0))]).flatten vs->RAs (m++ [Cz.fam 0 (List.replicate n fQ)]) φ w (l.map λi=> [AV.osf st.length i 0]).flatten vs:=by
   intro l;induction l with
   |nil=>intro vs _ h;simpa using h
   |cons i l ih=>intro vs hl h;obtain⟨c,cs,rfl,r1,r2⟩:=h;refine bp ?_ (ih cs (λi hi=>hl i (by simp[hi])) r2);subst r1;exact⟨0,_,hf,Nat.le_refl _,λ_=>by rw[List.getElem?_replicate,if_pos (hl i sM)];rfl⟩
  have:=key (List.range n) xs (λi hi=>List.mem_range.1 hi) (by simpa using q2);exact this)
 refine⟨_,φ,⟨?_,h3.ev,h3.env,h3.sz,h3.df⟩⟩;simp_all
theorem iE{α:Type}{E:α->List D}{L:List (List α)}{x:List α}{i:Int}(oid fid:Nat){To vo T k ver:Nat}(ho:st[oid]? =some (.os To 1 vo (bf fid ver L.length)))(hf:st[fid]? =some (.fam T k ver (bu E L)))(hne:Nat.beq oid fid=false)(hi:idx L i=some x):
  Gh e env st env (((st.set fid (.fam T k (ver+1) (bu E (L.set i.toNat [])))).set oid (.os To 1 vo ((bf fid (ver+1) L.length).set i.toNat [.os st.length 0])))++ [.os T k 0 (x.map (aS E))]):=λm φ a w hinv=>by
 have hne':oid≠fid:=by grind
 have hx:=bg hi;have hlt:=(giS.1 hx).1;obtain⟨m',y,_,h2,h3,_⟩:=vF (es:=x.map (aS E)) hinv.sr hf ho hne' (by rw[List.getElem?_map,hx];rfl);have h4:=hinv.go h2 h3;grind [AO.mapc,ue,List.map_set]
theorem jI{α:Type}{E:α->List D}{L:List (List α)}{_x x':List α}{j:Nat}(oid fid nid:Nat)(L':List (List α)){To vo T k ver v:Nat}(ho:st[oid]? =some (.os To 1 vo ((bf fid ver L.length).set j [.os nid v])))(hf:st[fid]? =some (.fam T k ver (bu E L)))(hn:st[nid]? =some (.os T k v (x'.map (aS E))))(hne:Nat.beq oid fid=false)(hne2:Nat.beq oid nid=false)(hj:j<L.length)(hL:L.set j x'=L'):
  Gh e env st env (((st.set fid (.fam T k (ver+1) (bu E L'))).set nid .dead).set oid (.os To 1 vo (bf fid (ver+1) L'.length))):=λm φ a w hinv=>by
 subst hL;have hne':oid≠fid:=by grind
 have hne2':oid≠nid:=λh=>by simp[h] at hne2
 obtain⟨m',h2,h3⟩:=xg (j:=j) hinv.sr hf hn ho hne' hne2' (by simpa using hj);have h4:=hinv.go h2 h3;grind [AO.mapc,vI,List.map_set]
theorem mJ{α:Type}{E R':α->List D}{L:List (List α)}(oid fid:Nat){To vo T k ver:Nat}(hE:∀x,E x=R' x)(ho:st[oid]? =some (.os To 1 vo (bf fid ver L.length)))(hf:st[fid]? =some (.fam T k ver (bu R' L)))(hne:Nat.beq oid fid=false):
  Gh e env st env ((st.set fid .dead).set oid (.os To 1 vo (L.map (aS λl=> [D.sl (l.map E)])))):=λm φ a w hinv=>by
 have hne':oid≠fid:=by grind
 have hf':st[fid]? =some (.fam T k ver ((L.map λl=>l.map E).map λds=>ds.map λe=>e.map AV.d)):=by grind [List.map_congr_left]
 obtain⟨φ',h2,h3⟩:=xh hinv.sr hf' ho hne';have h4:=hinv.go h2 h3;simp only[AO.mapc] at h4;have:=vK (fid:=fid) (ver:=ver) (dss:=L.map λl=>l.map E);rw[List.length_map] at this;rw[this] at h4;refine⟨m,φ',?_⟩;rw[List.map_map] at h4;exact h4
end
end Go.Sk
namespace Go.Sk
open Go.RowKit (Below)
section
variable{P:Program}{env:Env}{st:List AO}{dst:Option Tmp}{ty:TypeId}{pos:String}{after:Array Edge}{guard:Option (Nat×Bool)}
theorem lZ{T:TypeId}{x y:Operand}{id ver off T' k:Nat}{es es':List (List AV)}{r:AV}(hx:opv env x=some (.pe id ver off))(hs:st[id]? =some (.os T' k ver es))(hy:opv env y=some r)
  (hone:∀m φ w v,SR m φ st w->RA m φ w r v->v.oneCell'=true/\v.cells= #[v])
  (hn:bI P T=some 1)(hlen:off+1<=es.flatten.length)(hes:es'.flatten=es.flatten.take off++ [r]++es.flatten.drop (off+1))(hel:es'.length=es.length)(hek:∀e∈es',e.length=k):
  fP P env st ⟨dst, .store T x y,ty,pos,after,guard⟩ (.d (.v undef)) (st.set id (.os T' k ver es')):=λm φ a w hsr he=>by
 obtain⟨b,len,cap,xs,g1,g2,g3,g4,g5,g6⟩:=mB hsr he hx hs;have q0:=bv he hy;obtain⟨o1,o2⟩:=hone m φ w _ hsr q0;have q2:RAs m φ w [r] [a.eval y]:=bp q0 cD;have hxl:=aL g4;obtain⟨r1,r2⟩:=g3;rcases r2 with⟨hv,_⟩|⟨g,cap',cur,hv,p1,p2,p3,p4,p5,p6⟩
 cases hv;obtain⟨rfl,rfl,rfl⟩:=hv;have hcl:es.length*k<=cur.size:=by grind
 have hst:=run_storeCells_at P b off T' [a.eval y] 0 cur w p2 (by simp;omega) (by simpa using o1);have hnew:RAs m φ w es'.flatten (xs.take off++ [a.eval y]++xs.drop (off+1)):=by grind [ba,cW,cX]
 have htk:((cur.toList.take off++ [a.eval y]++cur.toList.drop (off+1)).toArray.toList).take (es.length*k)=xs.take off++ [a.eval y]++xs.drop (off+1):=by rw[<-p6];apply List.ext_getElem?;intro j;have hcz:cur.toList.length=cur.size:=sM;have hsize:[a.eval y].length=1:=rfl;simp only[List.getElem?_take,List.getElem?_append,List.length_append,List.length_take,List.getElem?_drop,hsize,hcz];rw[Nat.min_eq_left (show off<=cur.size by omega),Nat.min_eq_left (show es.length*k<=cur.size by omega),Nat.min_eq_left (show off<=es.length*k by omega)];by_cases h1:j<es.length*k;grind;grind
 obtain⟨k1,k2⟩:=uR hsr hs g1 hnew hel hek cur p2 (cur.toList.take off++ [a.eval y]++cur.toList.drop (off+1)).toArray (by simp;omega) htk;refine⟨undef,_,m,φ, .inr ⟨?_,rfl⟩,k1,k2,RAv⟩;simp_all [execOp,Instr.storeAt,Instr.sureAddr,storeVar,bG]
theorem pW{α:Type}:∀{es:List (List α)}{i:Nat}{x:α},(∀e∈es,e.length=1)->i<es.length->(es.set i [x]).flatten=es.flatten.take i++ [x]++es.flatten.drop (i+1)
 |[],i,x,_,h=>by simp at h
 |e::es,i,x,hl,h=>by
  have he:=hl e sM;match e,he with
  |[y],_=>
   cases i with
   |zero=>simp
   |succ i=>have:=pW (x:=x) (λe he=>hl e (by simp[he])) (show i<es.length by simpa using h);simp_all
theorem sC{α:Type}:∀{es:List (List α)},(∀e∈es,e.length=1)->es.flatten.length=es.length
 |[],_=>rfl
 |e::es,h=>by
  have h1:=sC (es:=es) (λe' he=>h e' (by simp[he]));grind
theorem qB{T:TypeId}{x y:Operand}{oid vo fid ver nid v To n:Nat}{T' k':Nat}{es:List (List AV)}{i:Int}(hx:opv env x=some (.pe oid vo (i.toNat*1)))(hs:st[oid]? =some (.os To 1 vo (bf fid ver n)))(hy:opv env y=some (.os nid v))(hn:st[nid]? =some (.os T' k' v es))(hT:bI P T=some 1)(hi:i.toNat<n):
  fP P env st ⟨dst, .store T x y,ty,pos,after,guard⟩ (.d (.v undef)) (st.set oid (.os To 1 vo ((bf fid ver n).set i.toNat [.os nid v]))):=by
 rw[Nat.mul_one] at hx;refine lZ hx hs hy (dY hn) hT (by rw[sC iI,fa];omega) (pW iI (by rw[fa];exact hi)) sM qz
theorem jv{T:TypeId}{x:Operand}{oid vo fid ver To n:Nat}{i:Int}{z:AV}(hx:opv env x=some (.pe oid vo (i.toNat*1)))(hs:st[oid]? =some (.os To 1 vo ((bf fid ver n).set i.toNat [z])))(hT:aX P T=some false)(hi:i.toNat<n):Yields P env st ⟨dst, .load T x,ty,pos,after,guard⟩ z:=by grind [c6,vH]
theorem fC{T n0:Nat}{bb:Bool}{x ix:Operand}{id ver fid vf T' k:Nat}{n:Nat}{kk:IntKind}{i:Int}(hT:bE P T=some (n0,bb))(hx:opv env x=some (.os id ver))(hs:st[id]? =some (.os T' k ver (bf fid vf n)))(hi:opv env ix=some (.d (.v (.int kk i))))(h0:0<=i)(h1:i<n):
  Yields P env st ⟨dst, .indexAddr T x ix,ty,pos,after,guard⟩ (.pe id ver (i.toNat*n0)):=by grind [cv,fa]
end
section
variable{P:Program}{e:En}{ops:Array Oper}{l rest:List Oper}{env:Env}{st:List AO}{R:Env->List AO->Prop}{K:Ko}
theorem sU(ts:List Nat)(cl:List (Nat×Nat))(r k:Nat){T kk ver vk:Nat}{es esk:List (List AV)}(hr:st[r]? =some (.os T kk ver es))(hk:st[k]? =some (.os T kk vk esk))(hne:Nat.beq r k=false)
  (ht:iY env r ver ts)(hc:gd ((st.set r .dead).set k (.os T kk (vk+ver+1) es)) r ver (.os k (vk+ver+1)) cl):
  Gh e env st (ts.map (λt=>(t, .os k (vk+ver+1)))++env) (dK (.os k (vk+ver+1)) cl ((st.set r .dead).set k (.os T kk (vk+ver+1) es))):=λm φ a w hi=>by
 have hne':r≠k:=λh=>by simp[h] at hne
 have hrl:=(giS.1 hr).1;have hkl:=(giS.1 hk).1;have hlen:=hi.sr.len;obtain⟨cr,hcr⟩:∃c,m[r]? =some c:=⟨_,geG (by rw[hlen];exact hrl)⟩;obtain⟨ck,hck⟩:∃c,m[k]? =some c:=⟨_,geG (by rw[hlen];exact hkl)⟩;obtain⟨y,xs,rfl,p1,p2,p3,p4⟩:=hi.sr.obj r _ cr hr hcr;obtain⟨yk,xk,rfl,_⟩:=hi.sr.obj k _ ck hk hck;let m':=m.set k (.tok (vk+ver+1) y);have hm'k:m'[k]? =some (.tok (vk+ver+1) y):=by simp[m',hlen,hkl]
 have hoth:∀i,i≠k->m'[i]? =m[i]? :=λi hi=>by simp only[m'];rw[List.getElem?_set_ne (Ne.symm hi)]
 have hpre:Pre m m':=λi d hd=>by
  by_cases hik:i=k;subst hik;rw[hck] at hd;obtain rfl:=inS hd;exact⟨_,hm'k, .inr ⟨_,_,rfl,oM⟩⟩;exact⟨d,by rw[hoth i hik];exact hd,Cz.le_refl d⟩
 have hnw:∀b,In m' b->In m b:=by rintro b ⟨i,d,hd,hb⟩;by_cases hik:i=k;subst hik;rw[hm'k] at hd;obtain rfl:=inS hd;exact⟨r,_,hcr,hb⟩;rw[hoth i hik] at hd;exact⟨i,d,hd,hb⟩
 have hev:Ev m φ w m' φ w:=⟨hpre,λb h=> .inl (hnw b h),rfl,rfl,rfl,Nat.le_refl _,λ_ _ _=>⟨rfl,rfl⟩,Fz.refl φ w⟩;have hsr:SR m' φ ((st.set r .dead).set k (.os T kk (vk+ver+1) es)) w:=by
  have get:∀(i:Nat)(p:AO),((st.set r .dead).set k (.os T kk (vk+ver+1) es))[i]? =some p->(i=k/\p= .os T kk (vk+ver+1) es)\/(i=r/\p= .dead)\/(i≠k/\i≠r/\st[i]? =some p):=by intro i p hp;by_cases hik:i=k;subst hik;rw[List.getElem?_set_self (by simpa using hkl)] at hp;exact .inl ⟨rfl,(inS hp).symm⟩;rw[List.getElem?_set_ne (Ne.symm hik)] at hp;by_cases hir:i=r;subst hir;rw[List.getElem?_set_self hrl] at hp;exact .inr (.inl ⟨rfl,(inS hp).symm⟩);rw[List.getElem?_set_ne (Ne.symm hir)] at hp;exact .inr (.inr ⟨hik,hir,hp⟩)
  refine⟨by simp[m',hlen],λi p d hp hd=>?_,hi.sr.lt,λi i' p p' d d' b hp hp' l1 l2 hd hd' hb hb'=>?_,hi.sr.gl,λb h=>hi.sr.nb b (hnw b h)⟩;rcases get i p hp with⟨rfl,rfl⟩|⟨rfl,rfl⟩|⟨g1,g2,g3⟩;rw[hm'k] at hd;obtain rfl:=inS hd;exact⟨y,xs,rfl,p1,RAs.mono hpre (Fz.refl φ w) _ _ p2,p3,p4⟩;trivial;rw[hoth i g1] at hd;exact(hi.sr.obj i p d g3 hd).congr hpre (Fz.refl φ w) (λ_ _=>⟨rfl,rfl⟩);have src:∀(i:Nat)(p:AO)(d:Cz),((st.set r .dead).set k (.os T kk (vk+ver+1) es))[i]? =some p->p.live=true->m'[i]? =some d->d.has b->∃(i0:Nat)(p0:AO)(d0:Cz),st[i0]? =some p0/\p0.live=true/\m[i0]? =some d0/\d0.has b/\((i=k/\i0=r)\/(i=i0/\i≠k/\i≠r)):=by intro i p d hp l1 hd hb;rcases get i p hp with⟨rfl,rfl⟩|⟨rfl,rfl⟩|⟨g1,g2,g3⟩;rw[hm'k] at hd;obtain rfl:=inS hd;exact⟨r,_,_,hr,rfl,hcr,hb, .inl ⟨rfl,rfl⟩⟩;cases l1;rw[hoth i g1] at hd;exact⟨i,p,d,g3,l1,hd,hb, .inr ⟨rfl,g1,g2⟩⟩
  obtain⟨i0,p0,d0,a1,a2,a3,a4,a5⟩:=src i p d hp l1 hd hb;obtain⟨i1,p1,d1,b1,b2,b3,b4,b5⟩:=src i' p' d' hp' l2 hd' hb';have e:=hi.sr.inj i0 i1 p0 p1 d0 d1 b a1 b1 a2 b2 a3 b3 a4 b4;rcases a5 with⟨a6,a7⟩|⟨a6,a7,a8⟩<;>rcases b5 with⟨b6,b7⟩|⟨b6,b7,b8⟩<;>omega
 have hi2:=hi.go hev hsr;have hval:∀v,RA m φ w (.os r ver) v->RA m' φ w (.os k (vk+ver+1)) v:=by intro v hv;simp only[RA] at hv⊢;obtain⟨v0,y0,q1,q2,q3⟩:=hv;rw[hcr] at q1;simp only[aK,Cz.tok.injEq] at q1;obtain⟨rfl,rfl⟩:=q1;have:=q3 rfl;subst this;exact⟨_,_,hm'k,Nat.le_refl _,λ_=>rfl⟩
 have hcells:∀(cl:List (Nat×Nat))(s:List AO),SR m' φ s w->gd s r ver (.os k (vk+ver+1)) cl->SR m' φ (dK (.os k (vk+ver+1)) cl s) w:=by
  intro cl;induction cl with
  |nil=>intro s h _;exact h
  |cons c cl ih=>obtain⟨i,off⟩:=c;intro s h hc;obtain⟨T',cs,h1,h2,h3⟩:=hc;simp only[dK,h1];refine ih _ ?_ h3;refine h.alter (o:= .row T' cs) h1 rfl ?_;rintro c hc2 ⟨b,rfl,q2,vs,q3,q4⟩;obtain⟨v',p1,p2⟩:=cP q4 h2;refine⟨b,rfl,q2,vs,q3,kA q4 p1 ?_⟩;simp only[RA] at p2⊢;obtain⟨v0,y0,k1,k2,k3⟩:=p2;rw[hoth r hne',hcr] at k1;simp only[aK,Cz.tok.injEq] at k1;obtain⟨rfl,rfl⟩:=k1;have:=k3 rfl;subst this;exact⟨_,_,hm'k,Nat.le_refl _,λ_=>rfl⟩
 refine⟨m',φ,hcells cl _ hi2.sr hc,hi2.ev,⟨?_,hi2.env.gl⟩,hi2.sz,hi2.df⟩;clear hc;induction ts with
 |nil=>exact hi2.env.get
 |cons t ts ih=>
  intro s x hx;simp only[List.map_cons,List.cons_append] at hx;unfold Env.get at hx;cases hb:Nat.beq s t with
  |true=>rw[hb] at hx;simp only[cdT,aK] at hx;subst hx;have:s=t:=nbE hb;subst this;obtain⟨v,g1,g2⟩:=hi.env s _ ht.1;exact⟨v,g1,hval v g2⟩
  |false=>rw[hb] at hx;exact ih ht.2 s x hx
def yT(k:Nat)(x:Nat->AV)(new:Nat->List AO)(r:AV)(st1:List AO):Prop:=∃i,r=x i/\k<=st1.length/\st1.take k=new i
theorem xw{o:Oper}{d:Nat}{f:FuncId}{c:Call}{x:Operand}{first caps asz as0:List AV}{st0 st0':List AO}{new new':Nat->List AO}{y y':Nat->AV}(js:List Nat)(hop:o.op= .call c)(hx:c.callee= .value x)
  (hf:opv env x=some (.fn (.func f) first caps))(has:dw env c.args.toList=some asz)(hc:Ctr P f as0 st0 (yT st0.length y new))(hl:Les (first++asz++caps) (AV.rens js as0))
  (hla:AV.lts js.length as0=true)(hj:js.Nodup)(hren0:st0.map (AO.ren js)=st0')(hwin:e9 js st st0')(hlt:dg js.length st0=true)(hlive:gW st0=true)(hnew:∀i,dg js.length (new i)=true)
  (hren:∀i,(new i).map (AO.ren js)=new' i)(hyl:∀i,(y i).lt js.length=true)(hy:∀i,(y i).ren js=y' i)
  (hw:Wt ops env o true)(ho:o.dst=some d)(hd:Nat.ble (d+1) e.n=true)(h:∀i,WL P e ops rest ((d,y' i)::env) (bM js (new' i) st) R):WL P e ops (o::rest) env st R:=λm φ a w hi=>by
 obtain⟨vs,h1,h2⟩:=fE (P:=P) hi.env hop hx hf has hc.1;unfold eX;rw[if_pos (hw _ _ _ _ hi.env)];refine .inl ?_;simp only[Oper.wp,h2,Oper.upon,ho];refine(pI hc hi.sr h1 hl hla hj (by rw[hren0];exact hwin) hlt hlive).mono ?_;rintro en w' ⟨v,r,st1,m1,φ',rfl,⟨i,rfl,q1,q2⟩,hQ,hra⟩;obtain⟨m',hev,hsr,hr⟩:=hQ q1 (by rw[q2];exact hnew i);have:=hr (hyl i);rw[q2,hren i] at hsr;exact h i m' φ' _ w' (hi.ev_put hev hsr (nbT hd) (by rw[<-hy i];exact this))
theorem lu{fn:Func}{φ0 w0 n m0}{x:Nat->AV}{r:AV}{new:Nat->List AO}{k:Nat}(i:Nat)(hr:Res P fn env st r)(hl:Le r (x i))(hk:Nat.ble k st.length=true)(hs:SLe (st.take k) (new i)):WE P ⟨m0,φ0,w0,n,none,none⟩ .ret (.fin fn (yT k x new)) env st:=by
 have hk:=nbT hk;have hwk:SLe st (new i++st.drop k):=by
  have:∀(k:Nat)(st new:List AO),SLe (st.take k) new->SLe st (new++st.drop k):=by
   intro k;induction k with
   |zero=>
    intro st new h;cases new with
    |nil=>exact SLe.refl _
    |cons a l=>exact h.elim
   |succ k ih=>
    intro st new h;cases st with
    |nil=>grind
    |cons b st=>
     cases new with
     |nil=>exact h.elim
     |cons a l=>exact⟨h.1,ih st l h.2⟩
  grind
 have hnl:(new i).length=k:=by rw[hs.length,List.length_take];omega
 refine im hr hl hwk ⟨i,rfl,?_,?_⟩;grind;grind
end
end Go.Sk
namespace Go.Sk
open Go.RowKit (Below)
section
variable{P:Program}{env:Env}{st:List AO}{dst:Option Tmp}{ty:TypeId}{pos:String}{after:Array Edge}{guard:Option (Nat×Bool)}
theorem jL{T:TypeId}{x:Operand}{r:AV}{ds:List D}(hx:opv env x=some r)(hk:r.okc=true)(hc:Les r.cells (ds.map .d)):DoesB P env st ⟨dst, .box T x,ty,pos,after,guard⟩ (.d (.pc ds)) st:=λm φ a w hs he=>by
 obtain⟨vs,h1,h2⟩:=bW (bv he hx) hk;have h2':=cV (hc.ras h2);let w':=w.alloc (.cells ⟨vs⟩ T);let φ':Nat->Nat:=λb=>if b=w.heap.size then ds.length else φ b
 have hb:Below w.heap.size w w':=(Below.refl _ _).alloc (Nat.le_refl _) _;have hF:Fz φ w φ' w':=λb off c g1 g2=>by
  have hlt:=da hs g1;refine⟨?_,by rw[bx (hb.block b hlt)];exact g2⟩;grind
 have hk':∀b,b<w.heap.size->w'.heap[b]? =w.heap[b]?/\φ' b=φ b:=λb hlt=>⟨hb.block b hlt,if_neg oM⟩;have hlt:∀b,w'.heap.size<=b->φ' b=0:=λb h=>by
  have h3:w'.heap.size=w.heap.size+1:=by simp[w']
  show(if b=w.heap.size then ds.length else φ b)=0;rw[if_neg oM];exact hs.lt b oM
 refine⟨.pointer (some ⟨w.heap.size,0,none⟩),w',m,φ',by simp[execOp,Instr.box,newVar,newRow,h1,w'],⟨Pre.refl m,λ_ h=> .inl h,hb.os,hb.tape,hb.output,hb.size,λb h _=>hk' b h,hF⟩,hs.of_keep hk' hF hlt,?_,hb⟩;refine⟨_,0,rfl,dH (RFs.mono hF _ _ h2') λj v hj=>?_⟩;have hjl:j<vs.length:=gn hj;have hvl:=fL h2';refine⟨?_,?_⟩;grind;have:w'.heap[w.heap.size]? =some (.cells ⟨vs⟩ T (0,0)):=heap_alloc_new w _;unfold World.cell?;simp_all
end
theorem Le.fnc{f:Fn}{a b:List AV}{a' b':List D}(h:Les a (a'.map .d))(k:Les b (b'.map .d)):Le (.fn f a b) (.d (.fnc f a' b')):=λ_ _ _ _ hh=>by
 obtain⟨fs,cs,h1,h2,h3⟩:=hh;exact⟨fs,cs,h1,cV (h.ras h2),cV (k.ras h3)⟩
theorem gY(f:Fn)(a b:List D):Le (.d (.fnc f a b)) (.fn f (a.map .d) (b.map .d)):=λ_ _ _ _ hh=>by
 grind [RA,RD,d4]
theorem Les.app:∀{xs ys us vs:List AV},Les xs ys->Les us vs->Les (xs++us) (ys++vs)
 |[],[],_,_,_,k=>k
 |_x::_xs,_y::_ys,_,_,h,k=>⟨h.1,Les.app h.2 k⟩
 |[],_::_,_,_,h,_=>h.elim
 |_::_,[],_,_,h,_=>h.elim
theorem mh{fi ca:List D}{asz:List AV}{ds:List D}(h:Les asz (ds.map .d)):Les (fi.map .d++asz++ca.map .d) ((fi++ds++ca).map .d):=by rw[List.map_append,List.map_append];exact Les.app (Les.app (Les.refl _) h) (Les.refl _)
section
variable{P:Program}{env:Env}{st:List AO}{dst:Option Tmp}{ty:TypeId}{pos:String}{after:Array Edge}{guard:Option (Nat×Bool)}
end
end Go.Sk
namespace Go.Sk
open Go.RowKit (Below)
def ge(s:ByteArray)(i:Int):Option Int:=if h:0<=i/\i<s.size then some ((s[i.toNat]'oM).toNat:Int) else none
def tJ(s:ByteArray)(l h:Int):Option ByteArray:=bif decide (0<=h)&&decide (h<=(s.size:Int))&&decide (0<=l)&&decide (l<=h) then some (s.extract l.toNat h.toNat) else none
section
variable{P:Program}{env:Env}{st:List AO}{dst:Option Tmp}{ty:TypeId}{pos:String}{after:Array Edge}{guard:Option (Nat×Bool)}
theorem dx{T:TypeId}{x ix:Operand}{k:IntKind}{s:ByteArray}{i r:Int}(hT:P.underlying T=some .string)(hx:opv env x=some (.d (.v (.string s))))(hi:opv env ix=some (.d (.v (.int k i))))(h:ge s i=some r):
  Yields P env st ⟨dst, .index T x ix,ty,pos,after,guard⟩ (.d (.v (.int .u8 r))):=λm φ a w _ he=>by
 refine⟨_,RAv,λw' _=>?_⟩;unfold ge at h;split at h;rename_i hc;simp only[aK] at h;subst h;simp only[execOp,bt he hx,bt he hi,Sem.run_bind,run_index_string w' T s k i hT,dif_pos hc];simp;cases h
theorem yc{T:TypeId}{x l h:Operand}{k k':IntKind}{s r:ByteArray}{i j:Int}(hT:P.underlying T=some .string)(hx:opv env x=some (.d (.v (.string s))))(hl:opv env l=some (.d (.v (.int k i))))(hh:opv env h=some (.d (.v (.int k' j))))(hr:tJ s i j=some r):
  Yields P env st ⟨dst, .slice T x (some l) (some h) none,ty,pos,after,guard⟩ (.d (.v (.string r))):=λm φ a w _ he=>by
 refine⟨_,RAv,λw' _=>?_⟩;unfold tJ at hr;cases hc:(decide (0<=j)&&decide (j<=(s.size:Int))&&decide (0<=i)&&decide (i<=j)) with
 |false=>grind
 |true=>rw[hc] at hr;obtain rfl:=inS hr;simp only[Bool.and_eq_true,decide_eq_true_eq] at hc;simp[execOp,bt he hx,bt he hl,bt he hh,Instr.sliceAt,run_underlying hT,run_slice_string_if w' T s k k' i j hT,hc]
theorem ww{T:TypeId}{x l:Operand}{k:IntKind}{s r:ByteArray}{i:Int}(hT:P.underlying T=some .string)(hx:opv env x=some (.d (.v (.string s))))(hl:opv env l=some (.d (.v (.int k i))))(hr:tJ s i s.size=some r):
  Yields P env st ⟨dst, .slice T x (some l) none none,ty,pos,after,guard⟩ (.d (.v (.string r))):=λm φ a w _ he=>by
 refine⟨_,RAv,λw' _=>?_⟩;unfold tJ at hr;cases hc:(decide (0<=(s.size:Int))&&decide ((s.size:Int)<=(s.size:Int))&&decide (0<=i)&&decide (i<=(s.size:Int))) with
 |false=>grind
 |true=>rw[hc] at hr;obtain rfl:=inS hr;simp only[Bool.and_eq_true,decide_eq_true_eq] at hc;simp[execOp,bt he hx,bt he hl,Instr.sliceAt,run_underlying hT,run_slice_string_from_if w' T s k i hT,hc]
end
end Go.Sk
namespace Go.Sk
open Go.RowKit (Below)
open Go.MapKept (IsKey sameNow_of_keys run_getObj_map run_setObj_map run_checkKey run_findKey run_keyThatStays)
theorem nX{κ α:Type}[DecidableEq κ]{k:κ}:bT ([]:List (κ×α)) k=none:=rfl
theorem bh{κ α:Type}[DecidableEq κ]{k a:κ}{x:α}{L:List (κ×α)}(h:¬k=a)(r:bT L k=none):bT ((a,x)::L) k=none:=by grind [bT]
section
variable{P:Program}{env:Env}{st:List AO}{dst:Option Tmp}{ty:TypeId}{pos:String}{after:Array Edge}{guard:Option (Nat×Bool)}
variable{κ α:Type}[DecidableEq κ]
theorem bL{T kt et:TypeId}{d:TypeDesc}{x ki:Operand}{id:Nat}(kf:κ->Value)(g:α->AV)(L:List (κ×α)){k:κ}{z:α}{zv:Value}{r:AV}{b:Bool}(hT:P.underlying T=some (.map kt et))(hd:P.underlying kt=some d)(hK:KeyF d kf)
  (hx:opv env x=some (.mp id))(hi:st[id]? =some (mpO kf g L))(hk:opv env ki=some (.d (.v (kf k))))(hz:(P.info? et).bind (·.zero)=some zv)(hgz:g z= .d (.v zv))(hr:g ((bT L k).getD z)=r)(hb:(bT L k).isSome=b):
  Yields P env st ⟨dst, .lookup T x ki true,ty,pos,after,guard⟩ (.tu [r, .d (.v (.bool b))]):=λm φ a w hs he=>by
 subst hr;subst hb;obtain⟨b,h1,h2⟩:=gk he hx;obtain⟨b',hbb,h0,l,cl,g1,g2,g3,g4⟩:=hs.obj id _ _ hi h1;simp only[Cz.blk.injEq] at hbb;subst hbb;have hkeys:l.map (·.key)=L.map (λp=>kf p.1):=by rw[g2];simp
 have hkv:=bt he hk;have hlt:=cK g1;have tu:∀{x:AV}{v:Value}{c:Bool},RA m φ w x v->RA m φ w (.tu [x, .d (.v (.bool c))]) (.tuple #[v, .bool c]):=λh=>by
  grind [RA,bp,RAv,cD]
 cases hinf:P.info? et with
 |none=>simp[hinf] at hz
 |some i=>
  simp only[hinf,bnS] at hz;rcases fJ hK k L l 0 hkeys with⟨q1,q2,_⟩|⟨j,e,y,q1,q2,q3,q4,q5,_⟩
  refine⟨.tuple #[zv, .bool false],by rw[q1,Option.getD_none,hgz];exact tu RAv,λw' hb=>?_⟩;have g1':w'.heap[b]? =some (.map ⟨l⟩ cl):=by rw[hb.block b hlt];exact g1
  simp[execOp,Instr.lookup,h2,hkv,run_underlying hT,MapKept.run_getObj_map g1',run_checkKey hd (hK.key k),run_findKey hd q2,zeroValue,typeInfo,hinf,hz,Result.andThen];have hval:RA m φ w (g y) e.val:=by
   have:(((L.map λp=>(kf p.1,g p.2)).map (·.2)))[j]? =some (g y):=by simp[q2]
   grind [cP]
  refine⟨.tuple #[e.val, .bool true],by rw[q3,Option.getD_some];exact tu hval,λw' hb=>?_⟩;have g1':w'.heap[b]? =some (.map ⟨l⟩ cl):=by rw[hb.block b hlt];exact g1
  simp[execOp,Instr.lookup,h2,hkv,run_underlying hT,MapKept.run_getObj_map g1',run_checkKey hd (hK.key k),run_findKey hd q5,Result.andThen]
end
end Go.Sk
namespace Go.Sk
open Go.RowKit (Below)
def AV.okS(st:List AO):AV->Bool
 | .os id ver=>match st[id]? with|some (.os _ _ v _)=>Nat.beq v ver|_=>false
 | .pe id ver _=>match st[id]? with|some (.os _ _ v _)=>Nat.beq v ver|_=>false
 |x=>x.okc
theorem u5{st:List AO}{id ver off T k:Nat}{es:List (List AV)}(hs:st[id]? =some (.os T k ver es)):∀m φ w v,SR m φ st w->RA m φ w (.pe id ver off) v->v.oneCell'=true/\v.cells= #[v]:=λm φ w v hsr h=>by
 obtain⟨v0,y0,h1,_,h3⟩:=h;obtain⟨y,xs,h4,_⟩:=hsr.obj _ _ _ hs h1;simp only[Cz.tok.injEq] at h4;obtain⟨b,_,_,_,h5⟩:=h3 h4.1.symm;subst h5;exact⟨rfl,rfl⟩
theorem lj{m φ w st}{x:AV}{y:Value}(hs:SR m φ st w)(h:RA m φ w x y)(hk:x.okS st=true):∃vs,y.cells=⟨vs⟩/\RAs m φ w x.cells vs:=by
 cases x with
 |os id ver=>simp only[AV.okS] at hk;split at hk;rename_i T k v es hi;obtain rfl:=nbE hk;exact⟨[y],(dY hi m φ w y hs h).2,bp h cD⟩;cases hk
 |u=>exact bW h hk
 |d z=>exact bW h hk
 |ag ps=>exact bW h hk
 |pt id off=>exact bW h hk
 |sr id off len cap=>exact bW h hk
 |fn f a b=>exact bW h hk
 |mp id=>exact bW h hk
 |tu l=>exact bW h hk
 |pe id ver off=>simp only[AV.okS] at hk;split at hk;rename_i T k v es hi;obtain rfl:=nbE hk;exact⟨[y],(u5 hi m φ w y hs h).2,bp h cD⟩;cases hk
 |ow id v off len lo=>exact bW h hk
 |fs es=>exact bW h hk
 |ifc t x=>exact bW h hk
 |osf id j v=>exact bW h hk
 |pem id j v off=>exact bW h hk
 |yl id=>exact bW h hk
 |kv v z=>exact bW h hk
def ko(st:List AO)(place:Nat->Option (Nat×Nat))(cells:List AV):List (Nat×AV)->Option (List AV)
 |[]=>some cells
 |(i,v)::rest=>
  match place i with
  |none=>none
  |some (off,size)=>
   bif Nat.beq v.cells.length size&&Nat.ble (off+v.cells.length) cells.length&&v.okS st then ko st place (cells.take off++(v.cells++cells.drop (off+size))) rest
   else none
theorem mN{m φ w st}(hsr:SR m φ st w){place:Nat->Option (Nat×Nat)}:∀{parts:List (Nat×AV)}{pv:List (Nat×Value)}{cells cs:List AV}{vs:List Value},parts.map (·.1)=pv.map (·.1)->RAs m φ w (parts.map (·.2)) (pv.map (·.2))->
  RAs m φ w cells vs->ko st place cells parts=some cs->∃us,Instr.fill place ⟨vs⟩ pv=some ⟨us⟩/\RAs m φ w cs us
 |[],pv,cells,cs,vs,hi,hv,hc,hf=>by
  simp only[ko,aK] at hf;subst hf;cases pv with
  |nil=>exact⟨vs,rfl,hc⟩
  |cons p pv=>simp at hi
 |(i,x)::parts,[],cells,cs,vs,hi,hv,hc,hf=>by simp at hi
 |(i,x)::parts,(i',v)::pv,cells,cs,vs,hi,hv,hc,hf=>by
  simp only[List.map_cons,List.cons.injEq] at hi;obtain⟨rfl,hi⟩:=hi;simp only[List.map_cons,RAs] at hv;obtain⟨c,cs',he,hx,hv⟩:=hv;obtain⟨rfl,rfl⟩:=he;unfold ko at hf;split at hf;cases hf;rename_i off size hp;cases hb:(Nat.beq x.cells.length size&&Nat.ble (off+x.cells.length) cells.length&&x.okS st) with
  |false=>grind
  |true=>rw[hb] at hf;simp only[Bool.and_eq_true] at hb;obtain⟨⟨b1,b2⟩,b3⟩:=hb;have b1:=nbE b1;have b2:=nbT b2;obtain⟨us,g1,g2⟩:=lj hsr hx b3;have l1:=aL g2;have l2:=aL hc;obtain⟨us',k1,k2⟩:=mN hsr hi hv (ba (cW off hc) (ba g2 (cX (off+size) hc))) hf;refine⟨us',?_,k2⟩;rw[k9 hp (by rw[g1];simp;omega) (by rw[g1];simp;omega)];simp_all
section
variable{P:Program}{env:Env}{st:List AO}{dst:Option Tmp}{ty:TypeId}{pos:String}{after:Array Edge}{guard:Option (Nat×Bool)}
theorem pH{T:TypeId}{parts:Array (Nat×Operand)}{pl:List (Nat×Nat)}{zs:List Value}{xs cs:List AV}(hp:bV P T=some pl)(hz:bq P T=some zs)(hx:dw env (parts.toList.map (·.2))=some xs)
  (hf:ko st (λi=>pl[i]?) (zs.map λv=> .d (.v v)) (mi parts.toList xs)=some cs):Yields P env st ⟨dst, .build T parts,ty,pos,after,guard⟩ (.ag cs):=λm φ a w hs he=>by
 have h1:=iu he hx;have hl:parts.toList.length=xs.length:=by have:=d9 hx;simpa using this.symm
 obtain⟨e1,e2⟩:=jR (l:=parts.toList) (xs:=xs) hl rfl;obtain⟨us,g1,g2⟩:=mN hs (m:=m) (φ:=φ) (w:=w) (parts:=mi parts.toList xs) (pv:=parts.toList.map λ(i,x)=>(i,a.eval x)) (by rw[e1];simp[Function.comp_def]) (by rw[e2];exact h1) (eP zs) hf;refine⟨.agg ⟨us⟩,by simp only[RA];exact⟨us,rfl,g2⟩,λw' hb=>?_⟩;obtain⟨z,z1,z2⟩:=eT hz w';unfold bV at hp;split at hp;rename_i fs hu;have hm:=gh (P:=P) (λf:Field=>(Prod.mk f.offset<$>sizeOf f.type:Sem (Nat×Nat))) (λf=>(bI P f.type).map λn=>(f.offset,n)) w' fs.toList pl (λf b _ hb=>by
  cases hsz:bI P f.type with
  |none=>simp[hsz] at hb
  |some n=>simp only[hsz,Option.map_some,aK] at hb;subst hb;simp[bG hsz]) hp
 have hm':(fs.mapM (λf:Field=>(Prod.mk f.offset<$>sizeOf f.type:Sem (Nat×Nat)))).run P w'= .ok pl.toArray w':=by rw[<-Array.toArray_toList (xs:=fs),List.mapM_toArray];simp[hm]
 simp[execOp,Instr.build,z1,run_underlying hu,hm',z2,g1];cases hp
end
end Go.Sk
namespace Go.Sk
open Go.RowKit (Below)
section
variable{P:Program}{env:Env}{st:List AO}{o:Oper}
end
theorem vB{e:En}{env:Env}{st:List AO}:Gh e env st env (st++ [.rsv]):=λm φ a w hi=>by
 have hF:Fz φ w φ w:=Fz.refl _ _;have hnew:∀b,Cz.non.has b->w.heap.size<=b:=λb hb=>hb.elim;exact⟨_,_,hi.go (Ev.push hi.sr hF (λ_ _=>rfl) (Nat.le_refl _) rfl rfl rfl hnew) (SR.push hi.sr hF (λ_ _=>rfl) (Nat.le_refl _) rfl hnew)⟩
theorem iz{P:Program}{env:Env}{st:List AO}{dst:Option Tmp}{ty:TypeId}{pos:String}{after:Array Edge}{guard:Option (Nat×Bool)}{T el k by_:Nat}(hT:c3 P T=some (el,k,by_)):NewOs P env st ⟨dst, .buildSlice T 0 #[],ty,pos,after,guard⟩ el k []:=λm φ a w hs he=>by
 obtain⟨i,ht,hi,rfl,rfl⟩:=fK hT;have hso:(sizeOf el).run P w= .ok i.size w:=by simp[sizeOf,typeInfo,hi]
 have hb:Below w.heap.size w (w.alloc (.cells #[] el)):=(Below.refl _ _).alloc (Nat.le_refl _) _;have hF:=Fz.alloc hs (.cells #[] el);have hk:∀b,b<w.heap.size->(w.alloc (.cells #[] el)).heap[b]? =w.heap[b]? :=λb hb=>bX hb;have hnew:∀b,(Cz.tok 0 (.slice (some ⟨w.heap.size,0,none⟩) 0 0)).has b->w.heap.size<=b:=by grind [Cz.has,Value.ownBlock]
 refine⟨.slice (some ⟨w.heap.size,0,none⟩) 0 0,w.alloc (.cells #[] el),?_,Ev.push hs hF hk sM rfl rfl rfl hnew,SR.push hs hF hk sM ?_ hnew,hb,λb hb=>by simp only[Value.ownBlock,aK] at hb;omega⟩;simp[execOp,Instr.buildSlice,run_underlying ht,hso,Instr.fill,newRow];grind;refine⟨_,[],rfl,⟨sM, .inr ⟨w.heap.size,0, #[],rfl,Nat.zero_le _,heap_alloc_new w _,Nat.le_refl _,Nat.zero_le _,sM,sM⟩⟩,by simp[RAs],sM,λb hb=>?_⟩;simp only[Value.ownBlock,aK] at hb;exact hs.lt _ oM
section
variable{P:Program}{e:En}{l:List Oper}{rs:List AV}{base:Env}{sts:List Bool->List AO}{es:List Nat}
end
end Go.Sk
namespace Go.Sk
open Go.RowKit (Below)
theorem WL.st{P:Program}{e:En}{ops:Array Oper}{rest:List Oper}{env:Env}{st st':List AO}{R:Env->List AO->Prop}(hs:st=st')(h:WL P e ops rest env st' R):WL P e ops rest env st R:=hs▸h
structure SlV where
 a:Option Addr
 n:Nat
 c:Nat
abbrev SlV.v(x:SlV):Value:= .slice x.a x.n x.c
section
variable{P:Program}{env:Env}{st:List AO}{dst:Option Tmp}{ty:TypeId}{pos:String}{after:Array Edge}{guard:Option (Nat×Bool)}
theorem y_com{x:Operand}{T:TypeId}{k:IntKind}{p c:Int}(hx:opv env x=some (.d (.v (.int k p))))(hw:k.wrap (BitVec.ofInt k.bits (if k.signed then -1 else k.max)^^^BitVec.ofInt k.bits p).toNat=c):Yields P env st ⟨dst, .unOp .xor T x,ty,pos,after,guard⟩ (.d (.v (.int k c))):=λm φ a w _ he=>by
 subst hw;exact⟨_,RAv,λw' _=>by simp[execOp,bt he hx,Op.unary,Op.intBits]⟩
theorem sj{T n:Nat}{bb:Bool}{x ix:Operand}{α:Type}{E:α->D}(tab:List α){kk:IntKind}{i:Int}{z:α}(hT:ib P T=some (n,1,bb))(hx:opv env x=some (.d (.pc (tab.map E))))(hi:opv env ix=some (.d (.v (.int kk i))))(hl:tab.length=n)(h:idx tab i=some z):
  Yields P env st ⟨dst, .indexAddr T x ix,ty,pos,after,guard⟩ (.d (.pc [E z])):=λm φ a w hs he=>by
 obtain⟨v,h1,h2⟩:=jd (dst:=dst) (ty:=ty) (pos:=pos) (after:=after) (guard:=guard) hT hx hi (ai h) (by rw[<-hl];exact fj h) m φ a w hs he;refine⟨v,?_,h2⟩;obtain⟨b,off,g1,g2⟩:=h1;refine⟨b,off,g1,?_⟩;have hz:=bg h;have hd:(tab.map E).drop (i.toNat*1)=E z::(tab.map E).drop (i.toNat+1):=by grind [List.drop_eq_getElem_cons]
 grind [RPs]
end
end Go.Sk
namespace Go.Sk
open Go.RowKit (Below)
def AV.ok1S(st:List AO):AV->Bool
 | .os id ver=>match st[id]? with|some (.os _ _ v _)=>Nat.beq v ver|_=>false
 | .pe id ver _=>match st[id]? with|some (.os _ _ v _)=>Nat.beq v ver|_=>false
 |x=>x.ok1
theorem nc{m φ w st}(hs:SR m φ st w):∀{xs:List AV}{vs:List Value},RAs m φ w xs vs->xs.all (AV.ok1S st)=true->∀v∈vs,v.oneCell'=true
 |[],vs,h,_,v,hv=>by simp only[RAs] at h;subst h;simp at hv
 |x::xs,vs,h,hk,v,hv=>by
  obtain⟨c,cs,rfl,h2,h3⟩:=h;simp only[List.all_cons,Bool.and_eq_true] at hk;rcases List.mem_cons.1 hv with rfl|hv
  have key:∀y:AV,RA m φ w y v->y.ok1S st=true->v.oneCell'=true:=λy hy hky=>by
   cases y with
   |os id ver=>grind [AV.ok1S,nbE,dY]
   |pe id ver off=>grind [AV.ok1S,nbE,u5]
   |_=>exact se hy hky
  exact key x h2 hk.1;exact nc hs h3 hk.2 v hv
section
variable{P:Program}{env:Env}{st:List AO}{dst:Option Tmp}{ty:TypeId}{pos:String}{after:Array Edge}{guard:Option (Nat×Bool)}
theorem vW{T:TypeId}{x y:Operand}{id off n:Nat}{T':TypeId}{cs:List AV}{r:AV}{rs:List AV}(hx:opv env x=some (.pt id off))(hs:st[id]? =some (.row T' cs))(hy:opv env y=some r)(hk:r.okS st=true)(hc:r.cells=rs)(hk1:rs.all (AV.ok1S st)=true)
  (hn:bI P T=some n)(hl:rs.length=n)(hlen:Nat.ble (off+n) cs.length=true):
  fP P env st ⟨dst, .store T x y,ty,pos,after,guard⟩ (.d (.v undef)) (st.set id (.row T' (cs.take off++rs++cs.drop (off+n)))):=λm φ a w hsr he=>by
 obtain⟨b,h1,h2⟩:=fG he hx;obtain⟨b',hbb,_,vs,h3,h4⟩:=hsr.obj id _ _ hs h1;simp only[Cz.blk.injEq] at hbb;subst hbb;obtain⟨us,g1,g2⟩:=lj hsr (bv he hy) hk;rw[hc] at g2;have hul:=aL g2;have hvl:=aL h4;have hle:=nbT hlen;have hst:=run_storeCells_at P b off T' us 0 ⟨vs⟩ w h3 (by simp;omega) (nc hsr g2 hk1);have hnew:RAs m φ w (cs.take off++rs++cs.drop (off+n)) (vs.take off++us++vs.drop (off+n)):=by grind [ba,cW,cX]
 obtain⟨k1,k2⟩:=md hsr hs h1 hnew;refine⟨undef,_,m,φ, .inr ⟨?_,rfl⟩,k1,k2,RAv⟩;simp_all [execOp,Instr.storeAt,Instr.sureAddr,storeVar,bG]
end
section
variable{P:Program}{e:En}{ops:Array Oper}{rest:List Oper}{env:Env}{st:List AO}{R:Env->List AO->Prop}{ty:TypeId}{pos:String}{after:Array Edge}{d:Nat}{op:Op}{r:AV}{x:Operand}{k:Ko}
theorem WL.qn(hy:Yields P env st ⟨some d,op,ty,pos,after,none⟩ r)(hd:Nat.ble (d+1) e.n=true)(h:WL P e ops rest ((d,r)::env) st R):WL P e ops (⟨some d,op,ty,pos,after,none⟩::rest) env st R:=WL.q hy (Wt.none rfl) rfl hd h
theorem WL.ns{y:Code}(h:WC P e y k env st):WL P e ops [] env st (λenv' st'=>WE P e .normal (.seq y k) env' st'):=WL.nil (uE h)
theorem WL.qy{j t:Nat}{b:Bool}(hy:Yields P env st ⟨some d,op,ty,pos,after,some (j,b)⟩ r)(hj:(ops[j]?).bind (·.dst)=some t)(hx:env.get t=some (.d (.v (.bool b))))(hd:Nat.ble (d+1) e.n=true)(h:WL P e ops rest ((d,r)::env) st R):WL P e ops (⟨some d,op,ty,pos,after,some (j,b)⟩::rest) env st R:=by grind [WL.q,aR]
theorem WQ.qn{n:Nat}{RQ:Env->Prop}(hy:Yields P env st ⟨some d,op,ty,pos,after,none⟩ r)(hd:Nat.ble (d+1) n=true)(h:WQ P n ops rest ((d,r)::env) st RQ):WQ P n ops (⟨some d,op,ty,pos,after,none⟩::rest) env st RQ:=WQ.q (gX hy) (Wt.none rfl) rfl hd h
theorem WQ.qy{n j t:Nat}{b:Bool}{RQ:Env->Prop}(hy:Yields P env st ⟨some d,op,ty,pos,after,some (j,b)⟩ r)(hj:(ops[j]?).bind (·.dst)=some t)(hx:env.get t=some (.d (.v (.bool b))))(hd:Nat.ble (d+1) n=true)(h:WQ P n ops rest ((d,r)::env) st RQ):WQ P n ops (⟨some d,op,ty,pos,after,some (j,b)⟩::rest) env st RQ:=WQ.q (gX hy) (aR rfl hj hx) rfl hd h
end
end Go.Sk
namespace Go.Sk
section
variable{e:En}{env:Env}{st:List AO}
theorem kY(t T k:Nat)(ht:env.get t=some (.d (.v (.slice none 0 0)))):Gh e env st ((t, .os st.length 0)::env) (st++ [.os T k 0 []]):=λ_m φ _a _w hi=>
 let ⟨m',hi'⟩:=hi.nil_os (T:=T) (k:=k) ht
 ⟨m',φ,hi'⟩
theorem dj{α:Type}{l:List α}{i:Int}{x:α}(h:idx l i=some x):i.toNat<l.length:=(giS.1 (bg h)).1
theorem iF{α:Type}{E:α->List D}{L0:List (List α)}{x':List α}{j:Nat}(oid fid nid:Nat){To vo T k ver v:Nat}(ho:st[oid]? =some (.os To 1 vo ((bf fid ver L0.length).set j [.os nid v])))(hf:st[fid]? =some (.fam T k ver (bu E (L0.set j []))))(hn:st[nid]? =some (.os T k v (x'.map (aS E))))(hne:Nat.beq oid fid=false)(hne2:Nat.beq oid nid=false)(hj:j<L0.length):
  Gh e env st env (((st.set fid (.fam T k (ver+1) (bu E (L0.set j x')))).set nid .dead).set oid (.os To 1 vo (bf fid (ver+1) (L0.set j x').length))):=
 jI (_x:=[]) oid fid nid (L0.set j x') (by rw[List.length_set];exact ho) hf hn hne hne2 (by simpa using hj) (by rw[List.set_set])
theorem qi{n fid ver:Nat}(h:Nat.ble (fid+1) n=true):∀l:List Nat,AV.lts n ((l.map λi=> [AV.osf fid i ver]).flatten)=true
 |[]=>rfl
 |i::l=>by
  simp only[List.map_cons,List.flatten_cons,List.cons_append,List.nil_append,AV.lts,AV.lt,h,qi h l,Bool.and_self]
theorem vh(n T k v fid ver m:Nat)(h:Nat.ble (fid+1) n=true):AO.lt n (.os T k v (bf fid ver m))=true:=qi h _
theorem rJ{α:Type}(n T k v:Nat)(E:α->List D):∀L:List (List α),AO.lt n (.fam T k v (bu E L))=true
 |[]=>rfl
 |l::L=>by
  have h1:=sJ n T k v E l;have h2:=rJ n T k v E L;grind [AO.lt,yw]
end
end Go.Sk
namespace Go.Sk
open Go.RowKit (Below)
def Rd(e:En)(id:Nat):Prop:=∃l,e.rd=some l/\e.m[id]? =some (.blk l)
theorem qv:∀(ps:List Nat)(vals:List Value)(tm:Array Value),ps.Nodup->(∀p∈ps,p<tm.size)->
  ((List.zip ps vals).foldl (λtmps (x:Nat×Value)=>tmps.setIfInBounds x.1 x.2) tm).size=tm.size/\
  (∀(i p:Nat)(v:Value),ps[i]? =some p->vals[i]? =some v->((List.zip ps vals).foldl (λtmps (x:Nat×Value)=>tmps.setIfInBounds x.1 x.2) tm)[p]? =some v)/\
  (∀t,t∉ps->((List.zip ps vals).foldl (λtmps (x:Nat×Value)=>tmps.setIfInBounds x.1 x.2) tm)[t]? =tm[t]?)
 |[],vals,tm,_,_=>sM
 |p::ps,[],tm,_,_=>sM
 |p::ps,v::vals,tm,hn,hlt=>by
  obtain⟨n1,n2⟩:=List.nodup_cons.1 hn;simp only[List.zip_cons_cons,List.foldl_cons];obtain⟨h1,h2,h3⟩:=qv ps vals (tm.setIfInBounds p v) n2 (λq hq=>by simpa using hlt q (List.mem_cons_of_mem _ hq));refine⟨by rw[h1];simp,λi q u hi hv=>?_,λt ht=>?_⟩;grind;grind
theorem ox:∀{ts:List Nat}{vs:List AV}{t:Nat}{x:AV},Env.get (List.zip ts vs) t=some x->∃i:Nat,ts[i]? =some t/\vs[i]? =some x
 |[],vs,t,x,h=>by simp[Env.get] at h
 |k::ts,[],t,x,h=>by simp[Env.get] at h
 |k::ts,v::vs,t,x,h=>by
  simp only[List.zip_cons_cons] at h;rw[bJ] at h;split at h;rename_i ht;simp only[aK] at h;subst h;subst ht;exact⟨0,sM,sM⟩;obtain⟨i,h1,h2⟩:=ox h;exact⟨i+1,by simpa using h1,by simpa using h2⟩
theorem get_append{a b:Env}{t:Nat}:Env.get (a++b) t=match Env.get a t with|some x=>some x|none=>Env.get b t:=by
 induction a with
 |nil=>simp[Env.get]
 |cons p a ih=>grind [bJ]
theorem pw:∀{ts:List Nat}{vs:List AV}{t:Nat},ts.length=vs.length->Env.get (List.zip ts vs) t=none->t∉ts
 |[],vs,t,_,_=>sM
 |k::ts,[],t,hl,h=>by simp at hl
 |k::ts,v::vs,t,hl,h=>by
  simp only[List.zip_cons_cons] at h;rw[bJ] at h;split at h;cases h;rename_i hk;have:=pw (by simpa using hl) h;simp[hk,this]
theorem uQ{α:Type}{m:List α}{i:Nat}{c:α}(h:m[i]? =some c):m.set i c=m:=by apply List.ext_getElem?;grind
theorem rq{m:List Cz}{φ:Nat->Nat}{st:List AO}{w:World}{id l:Nat}{o:AO}{r r':Loop}(hs:SR m φ st w)(hi:st[id]? =some o)(hl:o.live=true)(hc:m[id]? =some (.blk l))(hh:w.heap[l]? =some (.loop r)){o':AO}(hlv:o'.live=true\/(∀b,(Cz.blk l).has b->(Cz.blk l).has b))
  (ho:∀w',w'.heap[l]? =some (.loop r')->Fz φ w φ w'->OR m φ w' o' (.blk l)):
  Ev m φ w m φ (w.putObj l (.loop r'))/\SR m φ (st.set id o') (w.putObj l (.loop r')):=by
 have hlt:=cK hh;have hF:Fz φ w φ (w.putObj l (.loop r')):=λb off c h1 h2=>by
  refine⟨h1,?_⟩;have hb:b≠l:=λh=>by subst h;simp[World.cell?,hh] at h2
  rw[bx (dF hb)];exact h2
 have hm:=uQ hc;have:=fY (m:=m) (φ:=φ) (φ':=φ) (st:=st) (w:=w) (w':=w.putObj l (.loop r')) (o':=o') (c':= .blk l) hs hi hl hc (Cz.le_refl _) rfl rfl rfl sM (λb _ hb=>⟨dF λh=>hb h.symm,rfl⟩) hF (λb hb=>hs.lt b (by simpa using hb)) (λb h=> .inl h)
  (by rw[hm];exact ho _ (World.putObj_heap_same hlt) hF) hlv
 rwa [hm] at this
section
variable{P:Program}{e:En}{ops:Array Oper}{rest:List Oper}{o:Oper}{env:Env}{st:List AO}{R:Env->List AO->Prop}{d:Nat}{k:Ko}
theorem nu{m φ w a}{c:Call}{x:Operand}{id l:Nat}{asz:List AV}{r:Loop}(h:EnvOk m φ w env a)(hop:o.op= .call c)(hx:c.callee= .value x)(hf:opv env x=some (.yl id))(has:dw env c.args.toList=some asz)
  (hm:m[id]? =some (.blk l))(hh:w.heap[l]? =some (.loop r))(hp:asz.length=r.params.size):
  ∃vs,RAs m φ w asz vs/\(execOp a.eval o).run P w= .ok (.round l r.fn ((r.params.zip ⟨vs⟩).foldl (λtmps (t,a)=>tmps.setIfInBounds t a) r.tmps) r.assign r.body) w:=by
 have hv:=bv h hf;obtain⟨b,h1,h2⟩:=hv;rw[hm] at h1;simp only[aK,Cz.blk.injEq] at h1;subst h1;have h4:=iU h has;refine⟨c.args.toList.map a.eval,h4,?_⟩;have e1:(#[]++c.args.map a.eval:Array Value)=⟨c.args.toList.map a.eval⟩:=by grind
 have hl:=aL h4;simp_all [execOp,resolve,Deferred.ofValue,invoke,run_yield]
theorem um{c:Call}{x:Operand}{id:Nat}{asz:List AV}{s:LpS}{vs:List AV}{pd:Option Code}(Q:AV->List AO->Prop)(hop:o.op= .call c)(hx:c.callee= .value x)(hf:opv env x=some (.yl id))(has:dw env c.args.toList=some asz)
  (hs:st[id]? =some (.lp s vs .ready pd))(hp:Nat.beq asz.length s.ps.length=true)(hps:jE s.ps=true)(hpn:(s.ps.all λp=>Nat.blt p s.n)=true)(_hts:Nat.beq s.ts.length vs.length=true)
  (hr:∀e':En,e'.n=s.n->Rd e' id->e'.m.length=st.length->WC P e' s.asg (.asg s.body (.rend Q)) (List.zip s.ps asz++List.zip s.ts vs) st)
  (hw:Wt ops env o true)(ho:o.dst=some d)(hd:Nat.ble (d+1) e.n=true)(h:∀r st',Q r st'->WL P e ops rest ((d,r)::env) st' R):WL P e ops (o::rest) env st R:=λm φ a w hi=>by
 have hidl:=(giS.1 hs).1;obtain⟨c0,hc0⟩:∃c,m[id]? =some c:=⟨_,geG (by rw[hi.sr.len];exact hidl)⟩;obtain⟨b,rfl,h0,r,us,g1,⟨g2,g3,g4,g5,g6,g7,g8⟩,g9⟩:=hi.sr.obj id _ c0 hs hc0;have hp':=nbE hp;obtain⟨vals,k1,k2⟩:=nu (P:=P) hi.env hop hx hf has hc0 g1 (by rw[hp',g3];simp);unfold eX;rw[if_pos (hw _ _ _ _ hi.env)];refine .inr ⟨b,r.fn,_,r.assign,r.body,w,k2,?_⟩;have hz:(r.params.zip (⟨vals⟩:Array Value)).foldl (λtmps (t,a)=>tmps.setIfInBounds t a) r.tmps=(List.zip s.ps vals).foldl (λtmps (x:Nat×Value)=>tmps.setIfInBounds x.1 x.2) r.tmps:=by grind
 obtain⟨f1,f2,f3⟩:=qv s.ps vals r.tmps (fZ hps) (λp hp=>by
  have:=List.all_eq_true.1 hpn p hp;rw[g2];simpa[Nat.blt_eq] using this)
 rw[hz];let e':En:=⟨m,φ,w,s.n,some b,none⟩;have hinv:Inv e' m φ (List.zip s.ps asz++List.zip s.ts vs) st { tmps:=(List.zip s.ps vals).foldl (λtmps (x:Nat×Value)=>tmps.setIfInBounds x.1 x.2) r.tmps,defers:=[] } w:=by
  refine⟨hi.sr,Ev.refl m φ w,⟨λt y hy=>?_,hi.sr.gl⟩,by rw[f1];exact g2,trivial⟩;rw[get_append] at hy;cases hz:Env.get (List.zip s.ps asz) t with
  |some z=>rw[hz] at hy;simp only[aK] at hy;subst hy;obtain⟨i,q1,q2⟩:=ox hz;grind [cP]
  |none=>rw[hz] at hy;have hnt:=pw (by rw[hp']) hz;obtain⟨i,q1,q2⟩:=ox hy;grind [cP]
 have hwc:=hr e' rfl ⟨b,rfl,hc0⟩ hi.sr.len m φ _ w hinv;have hround:RoundIn Fence.wide 0 P b r.fn ((List.zip s.ps vals).foldl (λtmps (x:Nat×Value)=>tmps.setIfInBounds x.1 x.2) r.tmps) r.assign r.body w (dV e' Q):=by refine roundIn_of_wpIn trivial ?_;rw[g4,g5];exact hwc
 refine hround.mono ?_;rintro en w'' ⟨v,r',st',m',φ',rfl,hQ,hev,hsr,hra⟩;refine⟨v,rfl,?_⟩;rw[ho];exact h r' st' hQ m' φ' _ w'' (hi.ev_put hev hsr (nbT hd) hra)
theorem jx{body:Code}{id:Nat}{s:LpS}{vs:List AV}{pd:Option Code}(hrd:Rd e id)(hs:st[id]? =some (.lp s vs .ready pd))(h:WC P e body k env (st.set id (.lp s vs .busy pd))):WE P e .normal (.asg body k) env st:=λm φ a w hi=>by
 obtain⟨l,h1,h2⟩:=hrd;have hc:=hi.ev.pre.blk h2;obtain⟨b,hb,h0,r,us,g1,g2,g3⟩:=hi.sr.obj id _ _ hs hc;simp only[Cz.blk.injEq] at hb;subst hb;obtain⟨q1,q2⟩:=rq (r':={ r with state:= .busy }) (o':= .lp s vs .busy pd) hi.sr hs rfl hc g1 (.inl rfl) (λw' e1 hF=>⟨l,rfl,h0,_,us,e1,⟨g2.1,g2.2.1,g2.2.2.1,g2.2.2.2.1,rfl,g2.2.2.2.2.2.1,g2.2.2.2.2.2.2⟩,RAs.mono (Pre.refl m) hF _ _ g3⟩);have:=h m φ a _ (hi.go q1 q2);have hst:r.state= .ready:=g2.2.2.2.2.1;show(match e.rd with|some l=>∃w₂,(Instr.beginRound l).run P w= .ok () w₂/\body.wpIn (EF e.rd) 0 P (k.den P e) a w₂|none=>False);grind [run_beginRound]
theorem p9{Q:AV->List AO->Prop}{id:Nat}{s:LpS}{vs:List AV}{pd:Option Code}(jump:Option Code)(hrd:Rd e id)(hs:st[id]? =some (.lp s vs .busy pd))
  (hQ:Q (.d (.v (.bool jump.isNone))) (st.set id (.lp s vs (if jump.isNone then .ready else .done) jump))){m φ a w}(hi:Inv e m φ env st a w):
  ∃l,e.rd=some l/\∃v w',(Instr.endRound l jump).run P w= .ok v w'/\dV e Q (.returned v) w':=by
 obtain⟨l,h1,h2⟩:=hrd;have hc:=hi.ev.pre.blk h2;obtain⟨b,hb,h0,r,us,g1,g2,g3⟩:=hi.sr.obj id _ _ hs hc;simp only[Cz.blk.injEq] at hb;subst hb;obtain⟨q1,q2⟩:=rq (r':={ r with state:=if jump.isNone then .ready else .done,pending:=jump }) (o':= .lp s vs (if jump.isNone then .ready else .done) jump) hi.sr hs rfl hc g1 (.inl rfl) (λw' e1 hF=>⟨l,rfl,h0,_,us,e1,⟨g2.1,g2.2.1,g2.2.2.1,g2.2.2.2.1,rfl,rfl,g2.2.2.2.2.2.2⟩,RAs.mono (Pre.refl m) hF _ _ g3⟩);exact⟨l,h1,_,_,run_endRound jump g1,_,_,_,m,φ,rfl,hQ,hi.ev.trans q1,q2,by simp[RA,RD]⟩
theorem gG{Q:AV->List AO->Prop}{id:Nat}{s:LpS}{vs:List AV}{pd:Option Code}(hrd:Rd e id)(hs:st[id]? =some (.lp s vs .busy pd))
  (hQ:Q (.d (.v (.bool true))) (st.set id (.lp s vs .ready none))):WE P e .normal (.rend Q) env st:=λm φ a w hi=>by
 obtain⟨l,h1,h2⟩:=p9 (P:=P) none hrd hs hQ hi;show(match e.rd with|some l=>roundPost P l (dV e Q)|none=>λ_ _ _=>False) .normal a w;rw[h1];exact h2
theorem d8{Q:AV->List AO->Prop}{id:Nat}{s:LpS}{vs:List AV}{pd:Option Code}(hrd:Rd e id)(hs:st[id]? =some (.lp s vs .busy pd))
  (hQ:Q (.d (.v (.bool false))) (st.set id (.lp s vs .done (some .ret)))):WE P e .ret (.rend Q) env st:=λm φ a w hi=>by
 obtain⟨l,h1,h2⟩:=p9 (P:=P) (some .ret) hrd hs hQ hi;show(match e.rd with|some l=>roundPost P l (dV e Q)|none=>λ_ _ _=>False) .ret a w;rw[h1];exact h2
def qQ(P:Program)(e:En)(k:Ko)(env:Env)(id:Nat)(st':List AO):Prop:=
 ∃st2 s vs stt pend,SLe st' st2/\st2[id]? =some (.lp s vs stt pend)/\stt≠ .busy/\
  match pend with
  |none=>WE P e .normal k env (st2.set id .dead)
  |some .ret=>WE P e .ret k env (st2.set id .dead)
  |some (.exit i)=>WE P e (.exit i) k env (st2.set id .dead)
  |_=>False
theorem pO{m φ w}{a:Act}(he:EnvOk m φ w env a):∀{ts:List Nat}{vs:List AV},dw env (ts.map .tmp)=some vs->∃us,RAs m φ w vs us/\∀(i t:Nat)(u:Value),ts[i]? =some t->us[i]? =some u->a.tmps[t]? =some u
 |[],vs,h=>by simp only[List.map_nil,dw,aK] at h;subst h;exact⟨[],cD,λi t u h=>by simp at h⟩
 |t::ts,vs,h=>by
  simp only[List.map_cons,dw] at h;split at h;rename_i y ys h1 h2;simp only[aK] at h;subst h;obtain⟨us,g1,g2⟩:=pO he h2;obtain⟨v,q1,q2⟩:=he.get t y h1;refine⟨v::us,bp q2 g1,λi t' u hi hu=>?_⟩;grind;cases h
theorem nv{m φ w a}{f:FuncId}{g:Operand}{first caps:List AV}{l:Nat}(h:EnvOk m φ w env a)(hf:opv env g=some (.fn (.func f) first caps))(hc:kD P f):
  ∃fs cs,RAs m φ w first fs/\RAs m φ w caps cs/\∃d:Deferred,(∀w',(resolve a.eval (rangeCall g l) 0).run P w'= .ok d w')/\∀w',(invoke d.target d.args).run P w'= .ok (.enter f ⟨fs++ .func (.yield l) #[] #[]::cs⟩) w':=by
 have hv:=bv h hf;obtain⟨fs,cs,h1,h2,h3⟩:=hv;obtain⟨fn,g1,g2,g3⟩:=hc;refine⟨fs,cs,h2,h3,⟨.fn (.func f) ⟨cs⟩,⟨fs⟩++ #[.func (.yield l) #[] #[]]⟩,λw'=>?_,λw'=>?_⟩;have e0:(a.eval (.const (.func (.yield l) #[] #[])))= .func (.yield l) #[] #[]:=rfl;grind [resolve,Deferred.ofValue,Sem.run_pure];grind [invoke,callFunc,Sem.run_bind,run_program,Sem.run_pure,Result.andThen_ok]
theorem tE{g:Operand}{ps:Array Tmp}{asg body:Code}{f:FuncId}{first caps:List AV}(ts:List Nat){vs:List AV}(Q:AV->List AO->Prop)(hrd:e.rd=none)(hg:opv env g=some (.fn (.func f) first caps))(hts:dw env (ts.map .tmp)=some vs)
  (hc:Ctr P f (first++ .yl st.length::caps) (st++ [.lp ⟨e.n,ts,ps.toList,asg,body⟩ vs .ready none]) Q)
  (h:∀r st',Q r st'->qQ P e k env st.length st')(hnd:e.ds=none):WC P e (.rangeFunc g ps asg body) k env st:=λm φ a w hi=>by
 refine wpIn_rangeFunc λfn _=>?_;obtain⟨fs,cs,h1,h2,d,h3,h4⟩:=nv (P:=P) (l:=w.heap.size+1) hi.env hg hc.1;rw[hrd];refine⟨_,_,_,d,_,f,_,_,run_enterLoop_outer fn a.tmps ps asg body,h3 _,λ_ _=>trivial,h4 _,λhx=>by simp[EF] at hx,jK.2 ?_⟩;obtain⟨us,u1,u2⟩:=pO hi.env hts;let L:Loop:={ state:= .ready,pending:=none,fn,tmps:=a.tmps,params:=ps,assign:=asg,body,defers:=w.heap.size };let w1:World:=(w.alloc (.deferred (some []))).alloc (.loop L);have hs1:(w.alloc (.deferred (some []))).heap.size=w.heap.size+1:=World.size_alloc _ _;have hsz1:w1.heap.size=w.heap.size+2:=by show((w.alloc _).alloc _).heap.size=_;rw[World.size_alloc,hs1]
 have hk1:∀b,b<w.heap.size->w1.heap[b]? =w.heap[b]? :=λb hb=>by
  show((w.alloc _).alloc _).heap[b]? =_;rw[bX (by rw[hs1];omega),bX hb]
 have hl1:w1.heap[w.heap.size+1]? =some (.loop L):=by have:=World.alloc_heap_new (w.alloc (.deferred (some []))) (.loop L);rwa [hs1] at this
 have hd1:w1.heap[w.heap.size]? =some (.deferred (some [])):=by show((w.alloc _).alloc _).heap[w.heap.size]? =_;rw[bX (by rw[hs1];omega)];exact World.alloc_heap_new w _
 have hF1:Fz φ w φ w1:=λb off c q1 q2=>⟨q1,by rw[bx (hk1 b (da hi.sr q1))];exact q2⟩;let m1:=m++ [Cz.blk (w.heap.size+1)];have hpre:Pre m m1:=Pre.append m _;have hml:m.length=st.length:=hi.sr.len;have hsr1:SR m1 φ (st++ [.lp ⟨e.n,ts,ps.toList,asg,body⟩ vs .ready none]) w1:=
  hi.sr.push hF1 hk1 oM ⟨_,rfl,hi.sr.lt _ oM,L,us,hl1,⟨hi.sz,by simp[L],rfl,rfl,rfl,rfl,u2⟩,RAs.mono hpre hF1 _ _ u1⟩ (λb hb=>by simp only[Cz.has] at hb;omega)
 have hev1:Ev m φ w m1 φ w1:=by refine⟨hpre,?_,rfl,rfl,rfl,oM,λb hb _=>⟨hk1 b hb,rfl⟩,hF1⟩;rintro b ⟨i,c,q1,q2⟩;rw[dr] at q1;split at q1;exact .inl ⟨i,c,q1,q2⟩;split at q1;simp only[aK] at q1;subst q1;simp only[Cz.has] at q2;exact .inr oM;cases q1
 have hra:RAs m1 φ w1 (first++ .yl st.length::caps) (fs++ .func (.yield (w.heap.size+1)) #[] #[]::cs):=by refine ba (RAs.mono hpre hF1 _ _ h1) (bp ?_ (RAs.mono hpre hF1 _ _ h2));simp only[RA];exact⟨_,by rw[<-hml];simp[m1],rfl⟩
 refine(hc.2 m1 φ w1 _ hsr1 hra).mono ?_;rintro en w' ⟨v,r,st',m',φ',rfl,hQ,hev,hsr,_⟩;obtain⟨st2,s,vs2,stt,pend,e1,e2,e3,e4⟩:=h r st' hQ;have hsr2:=hsr.weak e1;have hm1:m1[st.length]? =some (.blk (w.heap.size+1)):=by rw[<-hml];simp[m1]
 have hcm:=hev.pre.blk hm1;obtain⟨b,hb,p0,r2,us2,p1,p2,p3⟩:=hsr2.obj st.length _ _ e2 hcm;simp only[Cz.blk.injEq] at hb;subst hb;obtain⟨q1,q2⟩:=rq (r':={ r2 with state:= .exhausted }) (o':= .dead) hsr2 e2 rfl hcm p1 (.inr λ_ h=>h) (λw' _ _=>trivial);have hst:r2.state=stt:=p2.2.2.2.2.1;have hpd:r2.pending=pend:=p2.2.2.2.2.2.1;refine⟨_,_,run_endLoop p1 (by rw[hst];exact e3),?_⟩;have hmk:Marks e.w.heap.size m w a.defers:=by have:=hi.df;rw[hnd] at this;exact this
 have hmark:Marks e.w.heap.size m1 w1 ({ target:= .collected w.heap.size,args:= #[] }::a.defers):=by
  refine⟨⟨w.heap.size,rfl,hd1,?_,hi.ev.size,?_⟩,hmk.ev hev1⟩;rintro⟨i,c,q1,q2⟩;rw[dr] at q1;split at q1;exact absurd (hi.sr.nb _ ⟨i,c,q1,q2⟩) (Nat.lt_irrefl _);split at q1;simp only[aK] at q1;subst q1;simp only[Cz.has] at q2;omega;cases q1;have:∀(ds:List Deferred),Marks e.w.heap.size m w ds->∀d'∈ds,d'.target≠ .collected w.heap.size:=by
   intro ds;induction ds with
   |nil=>intro _ d' hd';cases hd'
   |cons d0 ds ih=>
    rintro⟨⟨r0,t1,t2,_⟩,hds⟩ d' hd';rcases List.mem_cons.1 hd' with rfl|hd'
    rw[t1];intro hh;simp only[Target.collected.injEq] at hh;have:=cK t2;omega;exact ih hds d' hd'
  exact this _ hmk
 have hinv:Inv e m' φ' env (st2.set st.length .dead) { a with defers:=[{ target:= .collected w.heap.size,args:= #[] }]++a.defers } (w'.putObj (w.heap.size+1) (.loop { r2 with state:= .exhausted })):=by refine⟨q2,((hi.ev.trans hev1).trans hev).trans q1,?_,hi.sz,(by rw[hnd];exact(hmark.ev hev).ev q1)⟩;have h5:=((hi.env.mono hpre hF1).mono hev.pre hev.fz).mono q1.pre q1.fz;exact⟨h5.get,h5.gl⟩
 generalize hw4:(w'.putObj (w.heap.size+1) (.loop { r2 with state:= .exhausted }))=w4 at hinv⊢;rw[hpd];cases pend with
 |none=>exact e4 m' φ' _ _ hinv
 |some c=>
  cases c with
  |ret=>exact wpIn_ret (e4 m' φ' _ _ hinv)
  |exit i=>exact wpIn_exit (e4 m' φ' _ _ hinv)
  |_=>exact e4.elim
theorem Le.tu{xs ys:List AV}(h:Les xs ys):Le (.tu xs) (.tu ys):=λ_ _ _ _ hh=>by
 simp only[RA] at hh⊢;obtain⟨cs,h1,h2⟩:=hh;exact⟨cs,h1,h.ras h2⟩
theorem WL.weak{l:List Oper}{st':List AO}(h:SLe st st')(hc:WL P e ops l env st' R):WL P e ops l env st R:=λm φ a w hi=>hc m φ a w (hi.weak h)
theorem pL{g:Operand}{ps:Array Tmp}{asg body:Code}{f:FuncId}{first caps us:List AV}(ts:List Nat){vs:List AV}(id:Nat)(Q:LpS->AV->List AO->Prop)(hrd:e.rd=none)(hg:opv env g=some (.fn (.func f) first caps))(hts:dw env (ts.map .tmp)=some vs)(hid:Nat.beq st.length id=true)(has:first++ .yl id::caps=us)
  (hc:∀s,s=LpS.mk e.n ts ps.toList asg body->Ctr P f us (st++ [.lp s vs .ready none]) (Q s))
  (h:∀s r st',Q s r st'->qQ P e k env id st')(hnd:e.ds=none:=by rfl):WC P e (.rangeFunc g ps asg body) k env st:=by
 obtain rfl:=nbE hid;grind [tE]
theorem WL.yield{c:Call}{x:Operand}{id n:Nat}{asz:List AV}{s:LpS}{vs:List AV}{pd:Option Code}{ts ps:List Nat}{asg body:Code}{env0:Env}(Q:AV->List AO->Prop)(hsd:s=⟨n,ts,ps,asg,body⟩)(hop:o.op= .call c)(hx:c.callee= .value x)(hf:opv env x=some (.yl id))(has:dw env c.args.toList=some asz)
  (hs:st[id]? =some (.lp s vs .ready pd))(hp:(Nat.beq asz.length ps.length&&jE ps&&(ps.all λp=>Nat.blt p n)&&Nat.beq ts.length vs.length)=true)(he:List.zip ps asz++List.zip ts vs=env0)
  (hr:∀e':En,e'.n=n->Rd e' id->e'.m.length=st.length->WC P e' asg (.asg body (.rend Q)) env0 st)
  (hw:Wt ops env o true)(ho:o.dst=some d)(hd:Nat.ble (d+1) e.n=true)(h:∀r st',Q r st'->WL P e ops rest ((d,r)::env) st' R):WL P e ops (o::rest) env st R:=by
 subst hsd;subst he;simp only[Bool.and_eq_true] at hp;exact um Q hop hx hf has hs hp.1.1.1 hp.1.1.2 hp.1.2 hp.2 hr hw ho hd h
theorem WL.inl{f:FuncId}{c:Call}{x:Operand}{first caps asz us:List AV}(Q:AV->List AO->Prop)(hop:o.op= .call c)(hx:c.callee= .value x)
  (hf:opv env x=some (.fn (.func f) first caps))(has:dw env c.args.toList=some asz)(he:first++asz++caps=us)(hc:Ctr P f us st Q)
  (hw:Wt ops env o true)(ho:o.dst=some d)(hd:Nat.ble (d+1) e.n=true)(h:∀r st',Q r st'->WL P e ops rest ((d,r)::env) st' R):WL P e ops (o::rest) env st R:=by grind [WL.call,Les.refl]
end
end Go.Sk
namespace Go.Sk
open Go.RowKit (Below)
def uI(n:Nat)(f:Nat->D):List D:=(List.range n).map f
def br(n:Nat)(f:Nat->AV):List AV:=(List.range n).map f
def bn{α:Type}(F:Nat->α)(i:Nat)(v:α):Nat->α:=λj=>bif Nat.beq j i then v else F j
def bS(n:Nat)(i:Int):Bool:=decide (0<=i)&&Nat.blt i.toNat n
theorem dm{n:Nat}{i:Int}(h:bS n i=true):0<=i/\i.toNat<n:=by simpa[bS] using h
theorem be{n:Nat}{i:Int}(h:bS n i=true):0<=i:=(dm h).1
theorem bc{n:Nat}{i:Int}(h:bS n i=true):i<n:=by have:=dm h;omega
theorem uH(n:Nat)(f:Nat->D):(uI n f).map AV.d=br n (λj=> .d (f j)):=by simp[uI,br,List.map_map,Function.comp_def]
section
variable{P:Program}{e:En}{ops:Array Oper}{env:Env}{st:List AO}{R:Env->List AO->Prop}{dst:Option Tmp}{ty:TypeId}{pos:String}{after:Array Edge}{guard:Option (Nat×Bool)}
theorem qR{φ w}:∀{ps:List D}{b off:Nat}(n:Nat),RPs φ w ps b off->RPs φ w (ps.take n) b off
 |[],_,_,_,_=>by simp[RPs]
 |p::ps,b,off,0,h=>by simp[RPs]
 |p::ps,b,off,n+1,h=>by
  simp only[RPs] at h;simp only[List.take_succ_cons,RPs];exact⟨h.1,qR n h.2⟩
end
end Go.Sk
namespace Go.Sk
open Go.RowKit (Below)
section
variable{P:Program}{env:Env}{st:List AO}{dst:Option Tmp}{ty:TypeId}{pos:String}{after:Array Edge}{guard:Option (Nat×Bool)}
end
end Go.Sk
namespace Go.Sk
open Go.RowKit (Below)
end Go.Sk
namespace Go.Sk
open Go.RowKit (Below)
section
variable{P:Program}{env:Env}{st:List AO}{dst:Option Tmp}{ty:TypeId}{pos:String}{after:Array Edge}{guard:Option (Nat×Bool)}
end
end Go.Sk
namespace Go.Sk
open Go.RowKit (Below)
open Go.MapKept (run_getObj_map run_setObj_map)
structure KeyS(P:Program){κ:Type}[DecidableEq κ](kt:TypeId)(kf:κ->Value):Prop where
 wide:(match P.underlying kt with|some (.array _ _)|some (.struct _)=>true|_=>false)=true
 chk:∀em k w,(Instr.checkKey em 10000 kt (kf k)).run P w= .ok () w
 eq:∀a b w,(Op.equal kt (kf a) (kf b)).run P w= .ok (decide (a=b)) w
 same:∀a,Instr.sameBits 10000 (kf a) (kf a)=true
section
variable{κ α:Type}[DecidableEq κ]{P:Program}{kt:TypeId}{kf:κ->Value}
theorem eV(hK:KeyS P kt kf)(k:κ):∀(L:List (κ×α))(l:List MapEntry)(i:Nat),l.map (·.key)=L.map (λp=>kf p.1)->
  (bT L k=none/\(∀w:World,(Instr.findAsking kt (kf k) l i).run P w= .ok none w)/\∀v,bP L k v=L++ [(k,v)])\/
  ∃j e x,l[j]? =some e/\L[j]? =some (k,x)/\bT L k=some x/\e.key=kf k/\(∀w:World,(Instr.findAsking kt (kf k) l i).run P w= .ok (some (i+j,e.val)) w)/\∀v,bP L k v=L.set j (k,v)
 |[],[],i,_=> .inl ⟨rfl,by simp[Instr.findAsking],λ_=>rfl⟩
 |p::L,e::l,i,h=>by
  simp only[List.map_cons,List.cons.injEq] at h;have hr:=λw=>hK.eq k p.1 w;rw[<-h.1] at hr;by_cases hp:p.1=k;refine .inr ⟨0,e,p.2,rfl,by simp[<-hp],by simp[bT,hp],by rw[h.1,hp],?_,λv=>by simp[bP,hp]⟩;simp[Instr.findAsking,hr,hp];have hp':¬k=p.1:=λe=>hp e.symm;rcases eV hK k L l (i+1) h.2 with⟨h1,h2,h3⟩|⟨j,e',x,h1,h2,h3,h4,h5,h6⟩
  simp_all [bT,Instr.findAsking,bP];exact .inr ⟨j+1,e',x,by simpa using h1,by simpa using h2,by simp[bT,hp,h3],h4,by simp[Instr.findAsking,hr,hp',h5];omega,λv=>by simp[bP,hp,h6]⟩
 |[],_::_,_,h=>by simp at h
 |_::_,[],_,h=>by simp at h
theorem mH(hK:KeyS P kt kf)(k:κ)(w:World):(Instr.keyThatStays (kf k) (kf k)).run P w= .ok (kf k) w:=by simp[Instr.keyThatStays,hK.same k]
end
theorem KeyS.of{P:Program}{κ:Type}[DecidableEq κ]{kt:TypeId}{kf:κ->Value}{ls:κ->List Value}{ks:List LK}(hkf:∀a,kf a= .agg ⟨ls a⟩)(hT:lQ P 100 kt=some ks)(hag:aX P kt=some true)(hw:(match P.underlying kt with|some (.array _ _)|some (.struct _)=>true|_=>false)=true)
  (hc:∀em k w,(Instr.checkKey em 10000 kt (kf k)).run P w= .ok () w)(hf:∀a,cU ks (ls a)=true)(he:∀a b,eqL (ls a) (ls b)=decide (a=b))(hs:∀a,Instr.sameBits 10000 (kf a) (kf a)=true):KeyS P kt kf:=
 ⟨hw,hc,λa b w=>by
  rw[hkf a,hkf b,<-he a b];exact((eB (P:=P) w 100).1 kt ks 10000 (ls a) (ls b) hT dC (hf a) (hf b)).1 hag,hs⟩
theorem jh{P:Program}{T:TypeId}{d:TypeDesc}(hu:P.underlying T=some d)(hd:gV d=false){cs:Array Value}{off:Nat}{v:Value}(hc:cs[off]? =some v)(w:World):(part T cs off).run P w= .ok v w:=by simp_all [part,ff,mZ]
theorem gC{P:Program}{kt:TypeId}{f1 f2:Field}{k1 k2:IntKind}(hu:P.underlying kt=some (.struct #[f1,f2]))(h1:P.underlying f1.type=some (.int k1))(h2:P.underlying f2.type=some (.int k2))(o1:f1.offset=0)(o2:f2.offset=1)(hT:lQ P 100 kt=some [.int k1, .int k2]):
  KeyS P kt (λx:Int×Int=> .agg ⟨[.int k1 x.1, .int k2 x.2]⟩):=
 KeyS.of (ls:=λx:Int×Int=> [.int k1 x.1, .int k2 x.2]) (λ_=>rfl) hT (mZ hu) (by rw[hu])
  (λem k w=>by
   have p1:=jh (cs:=⟨[.int k1 k.1, .int k2 k.2]⟩) (off:=f1.offset) (v:= .int k1 k.1) h1 rfl (by rw[o1];rfl) w;have p2:=jh (cs:=⟨[.int k1 k.1, .int k2 k.2]⟩) (off:=f2.offset) (v:= .int k2 k.2) h2 rfl (by rw[o2];rfl) w;have c1:∀n,(Instr.checkKey em (n+1) f1.type (.int k1 k.1)).run P w= .ok () w:=λn=>by simp[Instr.checkKey,run_underlying h1]
   have c2:∀n,(Instr.checkKey em (n+1) f2.type (.int k2 k.2)).run P w= .ok () w:=λn=>by simp[Instr.checkKey,run_underlying h2]
   suffices H:∀n,(Instr.checkKey em (n+2) kt (.agg ⟨[.int k1 k.1, .int k2 k.2]⟩)).run P w= .ok () w from H 9998;intro n;rw[Instr.checkKey];by_cases n1:f1.name= "_"<;>by_cases n2:f2.name= "_"<;>simp[run_underlying hu,Result.andThen,n1,n2,p1,p2,c1,c2])
  (λa=>by simp[cU,LK.fits])
  (λa b=>by
   simp only[eqL,mO,Bool.and_true];by_cases e1:a.1=b.1<;>by_cases e2:a.2=b.2<;>simp[e1,e2,Prod.ext_iff])
  (λa=>by simp[Instr.sameBits])
section
variable{P:Program}{env:Env}{st:List AO}{dst:Option Tmp}{ty:TypeId}{pos:String}{after:Array Edge}{guard:Option (Nat×Bool)}
variable{κ α:Type}[DecidableEq κ]
theorem hZ{w:World}{T kt et:TypeId}{kf:κ->Value}{b:Nat}{l:List MapEntry}{clock:Nat}{k:κ}{u:Value}{L:List (κ×α)}(hT:P.underlying T=some (.map kt et))(hK:KeyS P kt kf)(hb:w.heap[b]? =some (.map ⟨l⟩ clock))
  (hl:l.map (·.key)=L.map λp=>kf p.1)(v:α):∃l' clock',(Instr.mapUpdate T (.map (some b)) (kf k) u).run P w= .ok () { w with heap:=w.heap.setIfInBounds b (.map ⟨l'⟩ clock') }/\
   l'.map (·.key)=(bP L k v).map (λp=>kf p.1)/\((bP L k v=L++ [(k,v)]/\l'.map (·.val)=l.map (·.val)++ [u])\/∃j,bP L k v=L.set j (k,v)/\l'.map (·.val)=(l.map (·.val)).set j u)/\(Born l clock->Born l' clock'):=by
 have hfk:=run_findKey_eq (P:=P) w hK.wide (kf k) l;rcases eV hK k L l 0 hl with⟨h1,h2,h3⟩|⟨j,e,x,h1,h2,h3,h4,h5,h6⟩
 rw[h2 w] at hfk;refine⟨l++ [⟨kf k,u,clock⟩],clock+1,?_,by rw[h3 v];simp[hl], .inl ⟨h3 v,sM⟩,λhB=>hB.push _ _⟩;simp[Instr.mapUpdate,run_underlying hT,MapKept.run_getObj_map hb,hK.chk,hfk,MapKept.run_setObj_map _ hb,Result.andThen];rw[h5 w] at hfk;refine⟨l.modify j (λe'=>{ e' with key:=kf k,val:=u }),clock,?_,?_, .inr ⟨j,h6 v,?_⟩,λhB=>hB.modify _ _ _⟩;simp[Instr.mapUpdate,run_underlying hT,MapKept.run_getObj_map hb,hK.chk,hfk,h1,h4,mH hK,MapKept.run_setObj_map _ hb,Result.andThen];rw[h6 v];apply List.ext_getElem?;intro i;have hi:=congrArg (λz=>z[i]?) hl;grind;apply List.ext_getElem?;grind
theorem me{m φ w a}{ki:Operand}{ka:AV}{vs:List Value}(he:EnvOk m φ w env a)(hk:opv env ki=some ka)(hl:Le ka (.d (.ag (vs.map D.v)))):a.eval ki= .agg ⟨vs⟩:=by have ex:=hl _ _ _ _ (bv he hk);grind [RA,RD,gA]
theorem nE{T kt et:TypeId}{o:Oper}{x ki v:Operand}{id:Nat}(kf:κ->Value)(g:α->AV)(L:List (κ×α)){k:κ}{u:α}{ka:AV}{vs:List Value}(ho:(o=⟨dst, .insert T x ki v,ty,pos,after,guard⟩)\/(o=⟨dst, .mapUpdate T x ki v,ty,pos,after,guard⟩))(hT:P.underlying T=some (.map kt et))(hK:KeyS P kt kf)
  (hx:opv env x=some (.mp id))(hi:st[id]? =some (mpO kf g L))(hk:opv env ki=some ka)(hl:Le ka (.d (.ag (vs.map D.v))))(hkf:kf k= .agg ⟨vs⟩)(hv:opv env v=some (g u)):
  fP P env st o (.d (.v undef)) (st.set id (mpO kf g (bP L k u))):=λm φ a w hs he=>by
 obtain⟨b,h1,h2⟩:=gk he hx;obtain⟨b',hbb,h0,l,cl,g1,g2,g3,g4⟩:=hs.obj id _ _ hi h1;simp only[Cz.blk.injEq] at hbb;subst hbb;have hkeys:l.map (·.key)=L.map (λp=>kf p.1):=by rw[g2];simp
 obtain⟨l',clock',r1,r2,r3,r4⟩:=hZ (P:=P) (k:=k) (u:=a.eval v) (w:=w) hT hK g1 hkeys u;have hru:=bv he hv;have hvals:RAs m φ w (((bP L k u).map λp=>(kf p.1,g p.2)).map (·.2)) (l'.map (·.val)):=by grind [ba,bp,cD,List.map_set,kz]
 obtain⟨k1,k2⟩:=rG (clock':=clock') hs hi h1 (by rw[r2];simp) hvals (r4 g4);refine⟨undef,_,m,φ, .inr ⟨?_,rfl⟩,k1,k2,RAv⟩;have hkv:=(me he hk hl).trans hkf.symm;rcases ho with rfl|rfl<;>simp[execOp,h2,hkv,r1]
theorem qY{T kt et:TypeId}{x ki:Operand}{id:Nat}(kf:κ->Value)(g:α->AV)(L:List (κ×α)){k:κ}{z:α}{zv:Value}{ka:AV}{vs:List Value}(hT:P.underlying T=some (.map kt et))(hK:KeyS P kt kf)
  (hx:opv env x=some (.mp id))(hi:st[id]? =some (mpO kf g L))(hk:opv env ki=some ka)(hl:Le ka (.d (.ag (vs.map D.v))))(hkf:kf k= .agg ⟨vs⟩)(hz:(P.info? et).bind (·.zero)=some zv)(hgz:g z= .d (.v zv)):
  Yields P env st ⟨dst, .lookup T x ki false,ty,pos,after,guard⟩ (g ((bT L k).getD z)):=λm φ a w hs he=>by
 obtain⟨b,h1,h2⟩:=gk he hx;obtain⟨b',hbb,h0,l,cl,g1,g2,g3,g4⟩:=hs.obj id _ _ hi h1;simp only[Cz.blk.injEq] at hbb;subst hbb;have hkeys:l.map (·.key)=L.map (λp=>kf p.1):=by rw[g2];simp
 have hkv:=(me he hk hl).trans hkf.symm;have hlt:=cK g1;cases hinf:P.info? et with
 |none=>simp[hinf] at hz
 |some i=>
  simp only[hinf,bnS] at hz;rcases eV hK k L l 0 hkeys with⟨q1,q2,_⟩|⟨j,e,y,q1,q2,q3,q4,q5,_⟩
  refine⟨zv,by rw[q1,Option.getD_none,hgz];exact RAv,λw' hb=>?_⟩;have g1':w'.heap[b]? =some (.map ⟨l⟩ cl):=by rw[hb.block b hlt];exact g1
  have hfk:=run_findKey_eq (P:=P) w' hK.wide (kf k) l;rw[q2 w'] at hfk;simp[execOp,Instr.lookup,h2,hkv,run_underlying hT,MapKept.run_getObj_map g1',hK.chk,hfk,zeroValue,typeInfo,hinf,hz,Result.andThen];have hval:RA m φ w (g y) e.val:=by
   have:(((L.map λp=>(kf p.1,g p.2)).map (·.2)))[j]? =some (g y):=by simp[q2]
   grind [cP]
  refine⟨e.val,by rw[q3,Option.getD_some];exact hval,λw' hb=>?_⟩;have g1':w'.heap[b]? =some (.map ⟨l⟩ cl):=by rw[hb.block b hlt];exact g1
  have hfk:=run_findKey_eq (P:=P) w' hK.wide (kf k) l;rw[q5 w'] at hfk;simp[execOp,Instr.lookup,h2,hkv,run_underlying hT,MapKept.run_getObj_map g1',hK.chk,hfk,Result.andThen]
end
end Go.Sk
namespace Go.Sk
open Go.RowKit (Below)
section
variable{P:Program}{env:Env}{st:List AO}{dst:Option Tmp}{ty:TypeId}{pos:String}{after:Array Edge}{guard:Option (Nat×Bool)}
theorem kn{α β:Type}{R:α->List β}{k:Nat}(hR:∀x,(R x).length=k):∀(l:List α)(i:Nat)(z:α),l[i]? =some z->∃r,(l.flatMap R).drop (i*k)=R z++r
 |[],i,z,h=>by simp at h
 |x::l,0,z,h=>by
  simp_all
 |x::l,i+1,z,h=>by
  obtain⟨r,hr⟩:=kn hR l i z (by simpa using h);refine⟨r,?_⟩;rw[List.flatMap_cons,List.drop_append,hR,Nat.add_mul,Nat.one_mul,Nat.add_sub_cancel,hr,List.drop_eq_nil_of_le (by rw[hR];omega),List.nil_append]
theorem yb{T n k:Nat}{bb:Bool}{x ix:Operand}{α:Type}{R:α->List D}(tab:List α){kk:IntKind}{i:Int}{z:α}(hR:∀x,(R x).length=k)(hT:ib P T=some (n,k,bb))(hx:opv env x=some (.d (.pc (tab.flatMap R))))(hi:opv env ix=some (.d (.v (.int kk i))))(hl:tab.length=n)(h:idx tab i=some z):
  Yields P env st ⟨dst, .indexAddr T x ix,ty,pos,after,guard⟩ (.d (.pc (R z))):=λm φ a w hs he=>by
 obtain⟨v,h1,h2⟩:=jd (dst:=dst) (ty:=ty) (pos:=pos) (after:=after) (guard:=guard) hT hx hi (ai h) (by rw[<-hl];exact fj h) m φ a w hs he;refine⟨v,?_,h2⟩;obtain⟨b,off,g1,g2⟩:=h1;refine⟨b,off,g1,?_⟩;obtain⟨r,hr⟩:=kn hR tab i.toNat z (bg h);rw[hr] at g2;have:=qR k g2;grind
end
end Go.Sk
namespace Go.Sk
open Go.RowKit (Below)
open Go.Sort (Holds putRow grow)
abbrev EI(x:Int):List D:=[.i .i64 x]
def iv(L:List Int):List Value:=L.map (Value.int .i64)
theorem kB{m φ w}:∀{L:List Int}{vs:List Value},RAs m φ w (L.map (aS EI)).flatten vs↔vs=iv L
 |[],vs=>by simp[RAs,iv]
 |x::L,vs=>by
  simp only[List.map_cons,List.flatten_cons,aS,List.map_nil,List.cons_append,List.nil_append,RAs,RA,RD,iv];constructor;rintro⟨c,cs,rfl,rfl,h⟩;rw[(kB (L:=L)).1 h,iv];rintro rfl;exact⟨_,_,rfl,rfl,(kB (L:=L)).2 rfl⟩
theorem vr(L:List Int):∀e∈L.map (aS EI),e.length=1:=λe he=>by
 obtain⟨x,_,rfl⟩:=List.mem_map.1 he;rfl
theorem vY{P:Program}{f:FuncId}{T ver:Nat}{L L':List Int}(hcan:kD P f)(_hlen:L'.length=L.length)
  (h:∀(w:World)(y:Value),w.ownsRow 0 T 1 y L.length (iv L)->Calls P f ⟨[y]⟩ w λe w'=>e= .returned (.tuple #[])/\w'.ownsRow 0 T 1 y L'.length (iv L')/\w.grownBy w' y.ownBlock):
  Ctr P f [.os 0 ver] [.os T 1 ver (L.map (aS EI))] (jO 1 (.tu []) λ_=> [.os T 1 ver (L'.map (aS EI))]):=by
 refine⟨hcan,λm φ w vs hs ha=>?_⟩;obtain⟨y,_,rfl,h1,rfl⟩:=ha;obtain⟨v0,y0,g1,g2,g3⟩:=h1;obtain⟨y1,xs,e1,r1,r2,r3,r4⟩:=hs.obj 0 _ _ rfl g1;simp only[Cz.tok.injEq] at e1;obtain⟨rfl,rfl⟩:=e1;have:=g3 rfl;subst this;have hx:=kB.1 r2;subst hx;rw[List.length_map] at r1;refine(h w y r1).mono ?_;rintro e w' ⟨rfl,k1,k2⟩;have hF:Fz φ w φ w':=λb off cc q1 q2=>⟨q1,by
  have hlt:=da hs q1;have hne:some b≠y.ownBlock:=λe=>by have:=r4 b e.symm;omega
  rw[bx (k2.block b hlt hne)];exact q2⟩
 have hm:m.set 0 (.tok v0 y)=m:=by apply List.ext_getElem?;grind
 obtain⟨q1,q2⟩:=fY (o':= .os T 1 v0 (L'.map (aS EI))) (c':= .tok v0 y) (φ':=φ) hs (id:=0) rfl rfl g1 (Cz.le_refl _) k2.os k2.tape k2.output k2.size
  (λb hb hn=>⟨k2.block b hb (λe=>hn (by simp[Cz.has,<-e])),rfl⟩) hF (λb hb=>hs.lt b (Nat.le_trans k2.size hb)) (λb hb=> .inl hb)
  ⟨y,_,rfl,by rw[List.length_map];exact k1,kB.2 rfl,vr L',r4⟩
 rw[hm] at q1 q2;exact⟨.tuple #[], .d (.tu []),[.os T 1 v0 (L'.map (aS EI))],m,φ,rfl,⟨v0,rfl,sM,rfl⟩,q1,q2,by simp[RA,RD,RFs]⟩
theorem t6{w:World}{T g cap n:Nat}{L:List Int}(h:w.ownsRow 0 T 1 (.slice (some ⟨g,0,none⟩) n cap) n (iv L))(hn:n=L.length):Holds (Value.int .i64) w g 0 L.toArray:=λj hj=>by
 subst hn;rcases h.2 with⟨hv,_⟩|⟨g',cap',cur,hv,_,hh,_⟩
 cases hv;cases hv;have hj':j<L.length:=by simpa using hj
 refine⟨?_,?_⟩;have:=h.cellAt j oM;grind [iv];simp[World.frozen?,hh]
theorem vZ{P:Program}{f:FuncId}{T ver:Nat}{L:List Int}(hcan:kD P f)
  (hs:∀(blk off cap:Nat)(zs:List Int)(w:World),Holds (Value.int .i64) w blk off zs.toArray->blk<w.heap.size->zs.length<4611686018427387904->
   Calls P f #[.slice (some ⟨blk,off,none⟩) zs.length cap] w λe w'=>e= .returned (.tuple #[])/\∃n os,w'=grow (putRow (Value.int .i64) (Sort.ahead w n) blk off (zs.mergeSort λx y=>decide (x<=y)).toArray) os)
  (hn:∀(p:Option Addr)(cap:Nat)(w:World),Calls P f #[.slice p 0 cap] w λe w'=>e= .returned (.tuple #[])/\w'=w)(hl:L.length<4611686018427387904):
  Ctr P f [.os 0 ver] [.os T 1 ver (L.map (aS EI))] (jO 1 (.tu []) λ_=> [.os T 1 ver ((L.mergeSort λx y=>decide (x<=y)).map (aS EI))]):=by
 refine vY hcan sM (λw y hown=>?_);have hown':=hown;obtain⟨h1,h2⟩:=hown;rcases h2 with⟨rfl,h2⟩|⟨g,cap,cur,rfl,_,p2,p3,p4,p5,p6⟩
 have:L=[]:=List.eq_nil_of_length_eq_zero h2;subst this;refine(hn none 0 w).mono ?_;simp_all [iv,World.grownBy.refl];refine(hs g 0 cap L w (t6 hown' rfl) (Array.getElem?_eq_some_iff.1 p2).1 hl).mono ?_;rintro e w' ⟨rfl,n,os,rfl⟩;have:=ownsRow_sortedI (w:=w) (base:=0) (n:=n) (os:=os) (ss:=L) (ts:=L.mergeSort λx y=>decide (x<=y)) sM (Nat.zero_le g) p2 p3 p4 p5;exact⟨rfl,by simpa[iv] using this,grownBy_sortedI _⟩
end Go.Sk
namespace Go.Sk
open Go.RowKit (Below)
def AO.lr:AO->Bool| .dead=>false|_=>true
theorem qW{o:AO}(h:o.lr=true):o.live=true\/o= .rsv:=by cases o<;>simp_all [AO.lr,AO.live]
def jn:List AO->Bool
 |[]=>true
 |o::l=>o.lr&&jn l
theorem oq:∀{l:List AO},jn l=true->∀{i:Nat}{o:AO},l[i]? =some o->o.live=true\/o= .rsv
 |[],_,i,o,h=>by simp at h
 |p::l,hl,i,o,h=>by
  simp only[jn,Bool.and_eq_true] at hl;cases i with
  |zero=>grind [qW]
  |succ i=>exact oq hl.2 (by simpa using h)
theorem SR.window{m:List Cz}{φ:Nat->Nat}{st st0:List AO}{w:World}{js:List Nat}(hs:SR m φ st w)(hj:js.Nodup)(hwin:e9 js st (st0.map (AO.ren js)))(hlt:dg js.length st0=true):
  Win js m (js.map λj=>m.getD j (.blk 0))/\SR (js.map λj=>m.getD j (.blk 0)) φ st0 w:=by
 obtain⟨hlen,hget⟩:=dZ hwin;rw[List.length_map] at hlen;generalize hm0':(js.map λj=>m.getD j (.blk 0))=m0;have hW:Win js m m0:=λi j hij=>by
  have hjl:=(hget i j hij).2;have hjm:j<m.length:=by rw[hs.len];exact hjl
  grind
 have hm0:m0.length=js.length:=by simp[<-hm0']
 have hs0:SR m0 φ st0 w:=by
  refine⟨by rw[hm0,hlen],λi o c h1 h2=>?_,hs.lt,λi j o o' c c' b h1 h2 l1 l2 h3 h4 h5 h6=>?_,hs.gl,λb ⟨i,c,h,h2⟩=>?_⟩;rotate_right;have hi:i<js.length:=by rw[<-hm0];exact(giS.1 h).1
  have h8:=hW i _ (geG hi);rw[h] at h8;exact hs.nb b ⟨_,c,h8.symm,h2⟩;have hi:i<js.length:=by rw[<-hlen];exact(giS.1 h1).1
  have hji:=geG hi;have h7:=(hget i _ hji).1;rw[List.getElem?_map,h1,Option.map_some] at h7;have h8:=hW i _ hji;rw[h2] at h8;exact(OR.ren hW (eY hlt h1)).1 (hs.obj _ _ _ h7 h8.symm);have hi:i<js.length:=by rw[<-hlen];exact(giS.1 h1).1
  have hi':j<js.length:=by grind
  have hji:=geG hi;have hji':=geG hi';have h7:=(hget i _ hji).1;have h7':=(hget j _ hji').1;rw[List.getElem?_map,h1,Option.map_some] at h7;rw[List.getElem?_map,h2,Option.map_some] at h7';have h8:=hW i _ hji;have h8':=hW j _ hji';rw[h3] at h8;rw[h4] at h8';have:=hs.inj _ _ _ _ _ _ b h7 h7' (by rw[cF];exact l1) (by rw[cF];exact l2) h8.symm h8'.symm h5 h6;exact(List.getElem?_inj hi hj).1 (by rw[hji,hji',this])
 exact⟨hW,hs0⟩
theorem nH{js:List Nat}{m φ w}{st st0:List AO}(hs:SR m φ st w)(hj:js.Nodup)(hwin:e9 js st (st0.map (AO.ren js)))(hlt:dg js.length st0=true)(hlive:jn st0=true):
  ∃m0,Win js m m0/\SR m0 φ st0 w/\(∀as0 vs,AV.lts js.length as0=true->RAs m φ w (AV.rens js as0) vs->RAs m0 φ w as0 vs)/\
   ∀st1 m1 φ' w',Ev m0 φ w m1 φ' w'->SR m1 φ' st1 w'->st0.length<=st1.length->dg js.length (st1.take st0.length)=true->
   ∃m',Ev m φ w m' φ' w'/\SR m' φ' (bM js ((st1.take st0.length).map (AO.ren js)) st) w'/\(∀r v,r.lt js.length=true->RA m1 φ' w' r v->RA m' φ' w' (r.ren js) v):=by
 obtain⟨hlen,hget⟩:=dZ hwin;rw[List.length_map] at hlen;let m0:List Cz:=js.map λj=>m.getD j (.blk 0);have hW:Win js m m0:=λi j hij=>by
  have hjl:=(hget i j hij).2;have hjm:j<m.length:=by rw[hs.len];exact hjl
  simp only[m0,List.getElem?_map,hij,Option.map_some,List.getD_eq_getElem?_getD,geG hjm,Option.getD_some]
 have hm0:m0.length=js.length:=by simp[m0]
 have hs0:SR m0 φ st0 w:=by
  refine⟨by rw[hm0,hlen],λi o c h1 h2=>?_,hs.lt,λi j o o' c c' b h1 h2 l1 l2 h3 h4 h5 h6=>?_,hs.gl,λb ⟨i,c,h,h2⟩=>?_⟩;rotate_right;have hi:i<js.length:=by rw[<-hm0];exact(giS.1 h).1
  have h8:=hW i _ (geG hi);rw[h] at h8;exact hs.nb b ⟨_,c,h8.symm,h2⟩;have hi:i<js.length:=by rw[<-hlen];exact(giS.1 h1).1
  have hji:=geG hi;have h7:=(hget i _ hji).1;rw[List.getElem?_map,h1,Option.map_some] at h7;have h8:=hW i _ hji;rw[h2] at h8;exact(OR.ren hW (eY hlt h1)).1 (hs.obj _ _ _ h7 h8.symm);have hi:i<js.length:=by rw[<-hlen];exact(giS.1 h1).1
  have hi':j<js.length:=by rw[<-hlen];exact(giS.1 h2).1
  have hji:=geG hi;have hji':=geG hi';have h7:=(hget i _ hji).1;have h7':=(hget j _ hji').1;rw[List.getElem?_map,h1,Option.map_some] at h7;rw[List.getElem?_map,h2,Option.map_some] at h7';have h8:=hW i _ hji;have h8':=hW j _ hji';rw[h3] at h8;rw[h4] at h8';have:=hs.inj _ _ _ _ _ _ b h7 h7' (by rw[cF];exact l1) (by rw[cF];exact l2) h8.symm h8'.symm h5 h6;exact(List.getElem?_inj hi hj).1 (by rw[hji,hji',this])
 refine⟨m0,hW,hs0,λas0 vs hla ha=>(RAs.ren hW as0 vs hla).1 ha,λst1 m1 φ' w' hev hsr hle hlt1=>?_⟩;have hm1:js.length<=m1.length:=by rw[hsr.len,<-hlen];exact hle
 let m':=dz js (m1.take js.length) m;let st':=bM js ((st1.take st0.length).map (AO.ren js)) st;have hjm:∀j∈js,j<m.length:=λj hj'=>by
  obtain⟨a,ha'⟩:=List.getElem?_of_mem hj';rw[hs.len];exact(hget a j ha').2
 have hjs:∀j∈js,j<st.length:=λj hj'=>by rw[<-hs.len];exact hjm j hj'
 have gm:=kN (js:=js) (os:=m1.take js.length) (st:=m) hj (by simp[hm1]) hjm;have gs:=gK (js:=js) (os:=(st1.take st0.length).map (AO.ren js)) (st:=st) hj (by simp[hlen];omega) hjs;have hW':Win js m' m1:=λi j hij=>by
  have hi:i<js.length:=(giS.1 hij).1;show _=(dz js (m1.take js.length) m)[j]?;rw[(gm j).1 i hij,List.getElem?_take,if_pos hi]
 have inm0:∀b,In m0 b->In m b:=by
  rintro b ⟨i,c,h1,h2⟩;have hi:i<js.length:=by rw[<-hm0];exact(giS.1 h1).1
  have h8:=hW i _ (geG hi);rw[h1] at h8;exact⟨_,c,h8.symm,h2⟩
 have hpre:Pre m m':=λi c hi=>by
  by_cases hij:i∈js;obtain⟨a,ha'⟩:=List.getElem?_of_mem hij;have h8:=hW a _ ha';rw[hi] at h8;obtain⟨c',h9,h10⟩:=hev.pre a c h8;refine⟨c',?_,h10⟩;have:=hW' a _ ha';rw[<-this];exact h9;exact⟨c,by show(dz js (m1.take js.length) m)[i]? =_;rw[(gm i).2 hij];exact hi,Cz.le_refl c⟩
 have hev':Ev m φ w m' φ' w':=by
  refine⟨hpre,?_,hev.os,hev.tape,hev.output,hev.size,λb hb hn=>hev.keep b hb (λh=>hn (inm0 b h)),hev.fz⟩;rintro b ⟨i,c,h1,h2⟩;by_cases hij:i∈js;obtain⟨a,ha'⟩:=List.getElem?_of_mem hij;have:=hW' a _ ha';rw[h1] at this;rcases hev.new b ⟨a,c,this,h2⟩ with h|h
  exact .inl (inm0 b h);exact .inr h;have h1':(dz js (m1.take js.length) m)[i]? =some c:=h1;rw[(gm i).2 hij] at h1';exact .inl ⟨i,c,h1',h2⟩
 have out:∀(i:Nat)(o:AO)(c:Cz)(b:Nat),i∉js->st[i]? =some o->o.live=true->m[i]? =some c->c.has b->¬In m0 b:=by
  rintro i o c b hij h1 hlv h2 h3 ⟨a,c',h4,h5⟩;have hi:a<js.length:=by rw[<-hm0];exact(giS.1 h4).1
  have hja:=geG hi;have h8:=hW a _ hja;rw[h4] at h8;have ha0:a<st0.length:=by rw[hlen];exact hi
  have h9:=(hget a _ hja).1;rw[List.getElem?_map,geG ha0,Option.map_some] at h9;rcases oq hlive (geG ha0) with hl9|hl9
  have:=hs.inj _ _ _ _ _ _ b h1 h9 hlv (by rw[cF];exact hl9) h2 h8.symm h3 h5;exact hij (this▸List.getElem_mem hi);rw[hl9] at h9;have h10:c'= .non:=hs.obj _ _ _ h9 h8.symm;subst h10;exact h5
 have hst:∀(i:Nat)(o:AO),i∉js->st'[i]? =some o->st[i]? =some o:=λi o hij h=>by
  have:(bM js ((st1.take st0.length).map (AO.ren js)) st)[i]? =some o:=h;rwa [(gs i).2 hij] at this
 have hmm:∀(i:Nat)(c:Cz),i∉js->m'[i]? =some c->m[i]? =some c:=λi c hij h=>by
  have:(dz js (m1.take js.length) m)[i]? =some c:=h;rwa [(gm i).2 hij] at this
 have hst1:∀(a i:Nat)(o:AO),js[a]? =some i->st'[i]? =some o->∃o1,st1[a]? =some o1/\o=o1.ren js/\o1.lt js.length=true:=λa i o ha' h=>by
  have:(bM js ((st1.take st0.length).map (AO.ren js)) st)[i]? =some o:=h;rw[(gs i).1 a ha',List.getElem?_map] at this;have hal:a<st0.length:=by rw[hlen];exact(giS.1 ha').1
  cases ht:(st1.take st0.length)[a]? with
  |none=>rw[ht] at this;simp at this
  |some o1=>rw[ht,Option.map_some,aK] at this;exact⟨o1,(dB ht).2,this.symm,eY hlt1 ht⟩
 refine⟨m',hev',⟨?_,?_,hsr.lt,?_,hsr.gl,?_⟩,λr v hrl hra=>(RA.ren hW' r v hrl).2 hra⟩;rotate_right;rintro b ⟨i,c,h1,h2⟩;by_cases hij:i∈js;obtain⟨a,ha'⟩:=List.getElem?_of_mem hij;have:=hW' a _ ha';rw[h1] at this;exact hsr.nb b ⟨a,c,this,h2⟩;have h1':(dz js (m1.take js.length) m)[i]? =some c:=h1;rw[(gm i).2 hij] at h1';exact Nat.lt_of_lt_of_le (hs.nb b ⟨i,c,h1',h2⟩) hev.size;show(dz _ _ _).length=(bM _ _ _).length;rw[gL,gi];exact hs.len;intro i o c h1 h2;by_cases hij:i∈js;obtain⟨a,ha'⟩:=List.getElem?_of_mem hij;obtain⟨o1,h3,rfl,h4⟩:=hst1 a i o ha' h1;have h5:=hW' a i ha';rw[h2] at h5;exact(OR.ren hW' h4).2 (hsr.obj a o1 c h3 h5);have h1':=hst i o hij h1;have h2':=hmm i c hij h2;have hor:=hs.obj i o c h1' h2';cases hlv:o.live with
 |false=>cases o<;>first|trivial|exact h|(simp[AO.live] at hlv;done)
 |true=>exact hor.congr hpre hev.fz (λb hb=>hev.keep b (hor.block_lt hlv hb) (out i o c b hij h1' hlv h2' hb))
 intro i j o o' c c' b h1 h2 l1 l2 h3 h4 h5 h6;have mixed:∀(i j:Nat)(o o':AO)(c c':Cz),i∉js->j∈js->st'[i]? =some o->m'[i]? =some c->o.live=true->m'[j]? =some c'->c.has b->c'.has b->False:=by
  intro i j o o' c c' hi hj' g1 g2 g3 g4 g5 g6;obtain⟨a,ha'⟩:=List.getElem?_of_mem hj';have g1':=hst i o hi g1;have g2':=hmm i c hi g2;have h7:=hW' a _ ha';rw[g4] at h7;rcases hev.new b ⟨a,c',h7,g6⟩ with h|h
  exact out i o c b hi g1' g3 g2' g5 h;have:=(hs.obj i o c g1' g2').block_lt g3 g5;omega
 by_cases hi:i∈js;by_cases hj':j∈js;obtain⟨a,ha'⟩:=List.getElem?_of_mem hi;obtain⟨a2,ha2⟩:=List.getElem?_of_mem hj';obtain⟨o1,q1,rfl,_⟩:=hst1 a i o ha' h1;obtain⟨o2,q2,rfl,_⟩:=hst1 a2 j o' ha2 h2;have h7:=hW' a _ ha';have h8:=hW' a2 _ ha2;rw[h3] at h7;rw[h4] at h8;have:=hsr.inj a a2 o1 o2 c c' b q1 q2 (by rw[<-cF];exact l1) (by rw[<-cF];exact l2) h7 h8 h5 h6;subst this;rw[ha'] at ha2;exact inS ha2;exact(mixed j i o' o c' c hj' hi h2 h4 l2 h3 h6 h5).elim;by_cases hj':j∈js;exact(mixed i j o o' c c' hi hj' h1 h3 l1 h4 h5 h6).elim;exact hs.inj i j o o' c c' b (hst i o hi h1) (hst j o' hj' h2) l1 l2 (hmm i c hi h3) (hmm j c' hj' h4) h5 h6
theorem uD{js:List Nat}{m φ w}{st st0:List AO}(hs:SR m φ st w)(hj:js.Nodup)(hwin:e9 js st (st0.map (AO.ren js)))(hlt:dg js.length st0=true)(hlive:jn st0=true):
  ∃m0,SR m0 φ st0 w/\(∀as0 vs,AV.lts js.length as0=true->RAs m φ w (AV.rens js as0) vs->RAs m0 φ w as0 vs)/\
   ∀st1 m1 φ' w',Ev m0 φ w m1 φ' w'->SR m1 φ' st1 w'->st0.length<=st1.length->dg js.length (st1.take st0.length)=true->
   ∃m',Ev m φ w m' φ' w'/\SR m' φ' (bM js ((st1.take st0.length).map (AO.ren js)) st) w'/\(∀r v,r.lt js.length=true->RA m1 φ' w' r v->RA m' φ' w' (r.ren js) v):=by grind [nH]
def eN(k:Nat)(S:AV->List AO->Prop)(r:AV)(st1:List AO):Prop:=k<=st1.length/\S r (st1.take k)
section
variable{P:Program}{e:En}{ops:Array Oper}{l rest:List Oper}{o:Oper}{env:Env}{st:List AO}{R:Env->List AO->Prop}{RP:List PanicEntry->Env->List AO->Prop}{d:Nat}{k:Ko}
theorem aQ{f:FuncId}{c:Call}{x:Operand}{first caps asz as0:List AV}{st0 st0':List AO}{S:AV->List AO->Prop}(js:List Nat)(hop:o.op= .call c)(hx:c.callee= .value x)
  (hf:opv env x=some (.fn (.func f) first caps))(has:dw env c.args.toList=some asz)(hc:Ctr P f as0 st0 (eN st0.length S))(hl:Les (first++asz++caps) (AV.rens js as0))
  (hla:AV.lts js.length as0=true)(hj:js.Nodup)(hren0:st0.map (AO.ren js)=st0')(hwin:e9 js st st0')(hlt:dg js.length st0=true)(hlive:jn st0=true)
  (hw:Wt ops env o true)(ho:o.dst=some d)(hd:Nat.ble (d+1) e.n=true)
  (h:∀r new,S r new->∃r' new',r.ren js=r'/\new.map (AO.ren js)=new'/\r.lt js.length=true/\dg js.length new=true/\WL P e ops rest ((d,r')::env) (bM js new' st) R):WL P e ops (o::rest) env st R:=λm φ a w hi=>by
 obtain⟨vs,h1,h2⟩:=fE (P:=P) hi.env hop hx hf has hc.1;unfold eX;rw[if_pos (hw _ _ _ _ hi.env)];refine .inl ?_;simp only[Oper.wp,h2,Oper.upon,ho];obtain⟨m0,g1,g2,g3⟩:=uD hi.sr hj (by rw[hren0];exact hwin) hlt hlive;refine(hc.2 m0 φ w vs g1 (g2 _ _ hla (hl.ras h1))).mono ?_;rintro en w' ⟨v,r,st1,m1,φ',rfl,⟨q1,q2⟩,hev,hsr,hra⟩;obtain⟨_,_,rfl,rfl,k1,k2,k3⟩:=h r _ q2;obtain⟨m',p1,p2,p3⟩:=g3 st1 m1 φ' w' hev hsr q1 k2;exact k3 m' φ' _ w' (hi.ev_put p1 p2 (nbT hd) (p3 r v k1 hra))
end
section
variable{P:Program}{e:En}{fn:Func}{env:Env}{st:List AO}{k:Nat}
theorem wA{m':List Cz}{φ φ':Nat->Nat}{w w':World}{st' st1:List AO}{perm:List Nat}{r0:AV}{new:List AO}{m0:List Cz}{v:Value}(hs:SR m' φ' st' w')(hev:Ev m0 φ w m' φ' w')(hra:RA m' φ' w' (r0.ren perm) v)(hwk:SLe st' st1)
  (hp:perm.Nodup)(hwin:e9 perm st1 (new.map (AO.ren perm)))(hlt:dg perm.length new=true)(hr0:r0.lt perm.length=true)(hk:m0.length=perm.length)
  (hfix:∀i:Nat,i<perm.length->perm[i]? =some i\/st'[i]? =some .rsv):
  ∃m2,Ev m0 φ w m2 φ' w'/\SR m2 φ' new w'/\RA m2 φ' w' r0 v:=by
 obtain⟨hW,hs2⟩:=(hs.weak hwk).window hp hwin hlt;generalize hm2:(perm.map λj=>m'.getD j (.blk 0))=m2 at hW hs2;have hl2:m2.length=perm.length:=by simp[<-hm2]
 refine⟨m2,⟨λi c hi=>?_,λb ⟨i,c,h1,h2⟩=>?_,hev.os,hev.tape,hev.output,hev.size,hev.keep,hev.fz⟩,hs2,(RA.ren hW r0 v hr0).1 hra⟩;have hil:i<perm.length:=by rw[<-hk];exact(giS.1 hi).1
 obtain⟨c',h1,h2⟩:=hev.pre i c hi;rcases hfix i hil with h|h
 grind;have h3:c'= .non:=hs.obj i _ c' h h1;subst h3;obtain⟨c2,h4⟩:∃c2,m2[i]? =some c2:=⟨_,geG (by rw[hl2];exact hil)⟩;refine⟨c2,h4,?_⟩;cases c with
 |non=>trivial
 |blk b=>simp[Cz.le] at h2
 |tok v y=>simp[Cz.le] at h2
 |fam v y=>simp[Cz.le] at h2
 have hil:i<perm.length:=by rw[<-hl2];exact(giS.1 h1).1
 have:=hW i _ (geG hil);rw[h1] at this;exact hev.new b ⟨_,c,this.symm,h2⟩
end
section
variable{P:Program}{e:En}{fn:Func}{env:Env}{st:List AO}{k:Nat}
theorem pT:∀(k:Nat)(st new:List AO),SLe (st.take k) new->SLe st (new++st.drop k)
 |0,_st,[],_=>SLe.refl _
 |0,_st,_::_,h=>h.elim
 |_k+1,[],[],_=>trivial
 |_k+1,[],_::_,h=>h.elim
 |_k+1,_b::_st,[],h=>h.elim
 |k+1,_b::st,_a::new,h=>⟨h.1,pT k st new h.2⟩
theorem ax{S:AV->List AO->Prop}{r r0:AV}{new:List AO}(hr:Res P fn env st r)(hl:Le r r0)(hk:Nat.ble k st.length=true)(hs:SLe (st.take k) new)(hS:S r0 new)(hds:e.nd=true:=by rfl):WE P e .ret (.fin fn (eN k S)) env st:=by
 have hk:=nbT hk;have hnl:new.length=k:=by rw[hs.length,List.length_take];omega
 refine im hr hl (pT k st new hs) ⟨?_,?_⟩ hds;grind;grind
end
inductive Rs(α:Type) where
 |ok(a:α)
 |bad(e:Int)
def Rs.cs{α β:Type}:Rs α->(Int->β)->(α->β)->β
 | .bad e,f,_=>f e
 | .ok a,_,g=>g a
section
variable{P:Program}{fn:Func}{env:Env}{st st':List AO}{f:FuncId}{caps:List AV}
end
def Ko.plain:Ko->Bool
 | .fin _ _=>true
 | .seq _ k=>k.plain
 |_=>false
end Go.Sk
namespace Go.Sk
open Go.RowKit (Below)
section
variable{P:Program}{e:En}{l:List Oper}{rs:List AV}{base:Env}{sts:Nat->List AO}{es:List Nat}
end
end Go.Sk
namespace Go.Sk
open Go.RowKit (Below)
section
variable{P:Program}{e:En}{ops:Array Oper}{l rest:List Oper}{K:Ko}{env:Env}{st:List AO}{R:Env->List AO->Prop}{dst:Option Tmp}{ty:TypeId}{pos:String}{after:Array Edge}{guard:Option (Nat×Bool)}
theorem yu{m φ a w}{x:Operand}{id ver off T k:Nat}{es:List (List AV)}(hs:SR m φ st w)(he:EnvOk m φ w env a)(hx:opv env x=some (.pe id ver off))(hi:st[id]? =some (.os T k ver es)):∃p,a.eval x= .pointer (some p):=by have h:=bv he hx;obtain⟨v0,y0,h1,_,h3⟩:=h;obtain⟨y,xs,h4,_⟩:=hs.obj _ _ _ hi h1;grind
theorem ju{T:TypeId}{x:Operand}{oid vo fid ver To n:Nat}{i:Int}(hx:opv env x=some (.pe oid vo (i.toNat*1)))(hs:st[oid]? =some (.os To 1 vo (bf fid ver n)))(hT:aX P T=some false)(hi:i.toNat<n):
  Yields P env st ⟨dst, .load T x,ty,pos,after,guard⟩ (.osf fid i.toNat ver):=by grind [c6,vJ]
theorem yU{x:Exit}{st':List AO}(hs:st=st')(h:WE P e x K env st'):WE P e x K env st:=hs▸h
theorem wJ(js:List Nat)(T v fid fv n:Nat):AO.ren js (.os T 1 v (bf fid fv n))= .os T 1 v (bf (js.getD fid 0) fv n):=by simp[AO.ren,bf,AV.rens,AV.ren]
theorem wK{α:Type}(js:List Nat)(T k v:Nat)(E:α->List D)(L:List (List α)):AO.ren js (.fam T k v (bu E L))= .fam T k v (bu E L):=by simp only[AO.ren,bu,List.map_map,AO.fam.injEq,true_and];refine List.map_congr_left λM _=>?_;have:=uY js 0 0 0 E M;grind [AO.ren]
theorem dE{α:Sort _}{b:Bool}{x y z:α}(h:(bif b then x else y)=z):(b=true/\x=z)\/(b=false/\y=z):=by grind
theorem oK{α:Type}{L:List α}{i:Int}{x:α}(h:idx L i=some x):List.set L i.toNat x=L:=by have:L[i.toNat]? =some x:=bg h;grind [List.set_getElem_self]
end
end Go.Sk
namespace Go.Sk
open Go.RowKit (Below)
section
variable{P:Program}{e:En}{ops:Array Oper}{l rest:List Oper}{K:Ko}{env:Env}{st:List AO}{R:Env->List AO->Prop}{dst:Option Tmp}{ty:TypeId}{pos:String}{after:Array Edge}{guard:Option (Nat×Bool)}
theorem qe{α:Type}{E:α->List D}{L:List (List α)}{M:List α}{m φ w}{x:Value}{fid j vf off T' k:Nat}(hs:SR m φ st w)(hx:RA m φ w (.pem fid j vf off) x)(hi:st[fid]? =some (.fam T' k vf (bu E L)))(hj:L[j]? =some M):
  ∃ys b len cap xs,m[fid]? =some (.fam vf ys)/\ys[j]? =some (.slice (some ⟨b,0,none⟩) len cap)/\x= .pointer (some ⟨b,off,none⟩)/\w.ownsRow 0 T' k (.slice (some ⟨b,0,none⟩) len cap) M.length xs/\RAs m φ w (M.map (aS E)).flatten xs/\(∀e∈M.map (aS E),e.length=k)/\φ b=0:=by
 obtain⟨v0,ys,h1,h2,h3⟩:=hx;obtain⟨ys',h4,h5,h6,_⟩:=hs.obj _ _ _ hi h1;obtain⟨rfl,rfl⟩:=h4;obtain⟨b,len,cap,h7,rfl⟩:=h3 rfl;have hess:(bu E L)[j]? =some (M.map (aS E)):=by simp[bu,hj]
 obtain⟨xs,g1,g2,g3,g4⟩:=h6 j _ _ hess h7;rw[List.length_map] at g1;exact⟨ys,b,len,cap,xs,h1,h7,rfl,g1,g2,g3,g4 b rfl⟩
theorem kE{α:Type}{E:α->List D}{L:List (List α)}{M:List α}{v:α}{T n:Nat}{bb:Bool}{x ix:Operand}{fid j vf T':Nat}{kk:IntKind}{i:Int}(hT:bE P T=some (n,bb))(hx:opv env x=some (.osf fid j vf))(hi:st[fid]? =some (.fam T' n vf (bu E L)))(hj:L[j]? =some M)(hix:opv env ix=some (.d (.v (.int kk i))))(hv:idx M i=some v):
  Yields P env st ⟨dst, .indexAddr T x ix,ty,pos,after,guard⟩ (.pem fid j vf (i.toNat*n)):=λm φ a w hs he=>by
 have h:=bv he hx;obtain⟨v0,ys,h1,h2,h3⟩:=h;obtain⟨ys',h4,h5,h6,_⟩:=hs.obj _ _ _ hi h1;obtain⟨rfl,rfl⟩:=h4;have hy:=h3 rfl;have hess:(bu E L)[j]? =some (M.map (aS E)):=by simp[bu,hj]
 obtain⟨xs,g1,_⟩:=h6 j _ _ hess hy;rw[List.length_map] at g1;have h0:=ai hv;have hlt:=fj hv;rcases g1.2 with⟨h,h'⟩|⟨g,cap,cur,h,_⟩
 omega;refine⟨.pointer (some ⟨g,0+i.toNat*n,none⟩),by simp only[RA];exact⟨_,_,h1,Nat.le_refl _,λ_=>⟨g,_,cap,by rw[hy,h],sM⟩⟩,λw' _=>?_⟩;simp[execOp,h,bt he hix,eA hT h0 hlt]
theorem wE{m φ w}{fid:Nat}{T k ver j b len cap:Nat}{ess:List (List (List AV))}{es es':List (List AV)}{ys vs:List Value}(hs:SR m φ st w)(hi:st[fid]? =some (.fam T k ver ess))(hb:m[fid]? =some (.fam ver ys))(hyj:ys[j]? =some (.slice (some ⟨b,0,none⟩) len cap))(hej:ess[j]? =some es)
  (h:RAs m φ w es'.flatten vs)(hl:es'.length=es.length)(hk:∀e∈es',e.length=k)(cur:Array Value)(hcur:w.heap[b]? =some (.cells cur T (0,0)))(new:Array Value)(hsz:new.size=cur.size)(htk:new.toList.take (es.length*k)=vs):
  Ev m φ w m φ (w.setRow b new)/\SR m φ (st.set fid (.fam T k ver (ess.set j es'))) (w.setRow b new):=by
 obtain⟨ys',e1,e2,e3,e4⟩:=hs.obj fid _ _ hi hb;simp only[Cz.fam.injEq,true_and] at e1;subst e1;obtain⟨xs,g1,g2,g3,g4⟩:=e3 j es _ hej hyj;have h0:φ b=0:=g4 b rfl;have hmem:(Cz.fam ver ys).has b:=⟨_,List.mem_of_getElem? hyj,rfl⟩;have hF:Fz φ w φ (w.setRow b new):=λb2 off c q1 q2=>⟨q1,by
  have hne:b2≠b:=λe=>by subst e;omega
  rw[bx (cw hne)];exact q2⟩
 have hsize:(w.setRow b new).heap.size=w.heap.size:=size_setRow w b _;refine⟨⟨Pre.refl m,λ_ h=> .inl h,rfl,rfl,rfl,by rw[hsize];exact Nat.le_refl _,λb2 hb2 hn=>⟨cw (λe=>hn ⟨fid,_,hb,by rw[e];exact hmem⟩),rfl⟩,hF⟩,⟨by simp[hs.len],λi o c q1 q2=>?_,λb2 hb2=>hs.lt b2 oM,λi1 j1 o o' c c' b2 q1 q2 l1 l2 k1 k2 e1 e2=>?_,hs.gl.mono hF,λb2 hb2=>by rw[hsize];exact hs.nb b2 hb2⟩⟩;by_cases hii:i=fid;subst hii;rw[List.getElem?_set_self (gn hi)] at q1;rw[hb] at q2;simp only[aK] at q1 q2;subst q1;subst q2;refine⟨ys,rfl,by simpa using e2,λj2 es2 y2 hj2 hy2=>?_,e4⟩;by_cases hjj:j2=j;subst hjj;rw[List.getElem?_set_self (giS.1 hej).1] at hj2;rw[hyj] at hy2;simp only[aK] at hj2 hy2;subst hj2;subst hy2;refine⟨vs,?_,RAs.mono (Pre.refl m) hF _ _ h,hk,g4⟩;obtain⟨r1,r2⟩:=g1;have hvl:vs.length=es.length*k:=by
  have:=aL h;rw[this];clear this h htk;have:∀l:List (List AV),(∀e∈l,e.length=k)->l.flatten.length=l.length*k:=by
   intro l;induction l with
   |nil=>simp
   |cons x l ih=>grind
  grind
 rcases r2 with⟨hv,_⟩|⟨g,cap',cur',hv,p1,p2,p3,p4,p5,p6⟩
 cases hv;simp only[Value.slice.injEq,aK,Addr.mk.injEq,and_true] at hv;obtain⟨rfl,rfl,rfl⟩:=hv;rw[hcur] at p2;simp only[aK,Obj.cells.injEq,and_true] at p2;subst p2;rw[hl];exact⟨hvl, .inr ⟨b,cap,new,rfl,p1,setRow_heap w b _ _ T (0,0) hcur,p3,p4,by rw[hsz];exact p5,htk⟩⟩;rw[List.getElem?_set_ne (Ne.symm hjj)] at hj2;obtain⟨xs2,t1,t2,t3,t4⟩:=e3 j2 es2 y2 hj2 hy2;exact⟨xs2,gj t1 (λb2 hb2=>cw (λe=>by subst e;exact hjj (e4 j2 j y2 _ b2 hy2 hyj hb2 rfl))),RAs.mono (Pre.refl m) hF _ _ t2,t3,t4⟩;rw[List.getElem?_set_ne (Ne.symm hii)] at q1;have h:=hs.obj i o c q1 q2;cases hl:o.live with
 |true=>refine h.congr (Pre.refl m) hF (λb2 hb2=>⟨cw λe=>?_,rfl⟩);subst e;exact hii (hs.inj i fid o _ c _ b2 q1 hi hl rfl q2 hb hb2 hmem)
 |false=>cases o<;>first|trivial|exact h|(simp[AO.live] at hl;done)
 have back:∀(i:Nat)(o:AO),(st.set fid (.fam T k ver (ess.set j es')))[i]? =some o->o.live=true->∃o2,st[i]? =some o2/\o2.live=true:=by intro i o g l;by_cases hii:i=fid;subst hii;exact⟨_,hi,rfl⟩;grind
 obtain⟨p,p1,p2⟩:=back i1 o q1 l1;obtain⟨q,u1,u2⟩:=back j1 o' q2 l2;exact hs.inj i1 j1 p q c c' b2 p1 u1 p2 u2 k1 k2 e1 e2
theorem lY{α:Type}{E:α->List D}{L:List (List α)}{M:List α}{v z:α}{T:TypeId}{x y:Operand}{fid j vf T' k:Nat}{i:Int}{r0:AV}(hx:opv env x=some (.pem fid j vf (i.toNat*k)))(hi:st[fid]? =some (.fam T' k vf (bu E L)))(hj:L[j]? =some M)(hv:idx M i=some v)(hE:∀x,(E x).length=k)(hy:opv env y=some r0)(hk:r0.okc=true)(hc:Les r0.cells (aS E z))(hk1:(aS E z).all AV.ok1=true)(hn:bI P T=some k):
  fP P env st ⟨dst, .store T x y,ty,pos,after,guard⟩ (.d (.v undef)) (st.set fid (.fam T' k vf (bu E (L.set j (M.set i.toNat z))))):=λm φ a w hs he=>by
 obtain⟨ys,b,len,cap,xs,h1,h2,h3,g3,g4,h6,h7⟩:=qe hs (bv he hx) hi hj;obtain⟨us,q1,q2⟩:=bW (bv he hy) hk;have q2:=hc.ras q2;have hul:=aL q2;have hL:M[i.toNat]? =some v:=bg hv;obtain⟨l1,l2,f1,f2,f3⟩:=iV (R:=E) hE hL;have hze:(aS E z).length=k:=by grind
 have hve:(aS E v).length=k:=by grind
 obtain⟨r1,r2⟩:=g3;rcases r2 with⟨hv',_⟩|⟨g,cap',cur,hv',p1,p2,p3,p4,p5,p6⟩
 cases hv';obtain⟨rfl,rfl,rfl⟩:=hv';have hoff:i.toNat*k+k<=M.length*k:=by
  have:i.toNat+1<=M.length:=by grind
  calc i.toNat*k+k=(i.toNat+1)*k:=by rw[Nat.succ_mul]
   _<=M.length*k:=Nat.mul_le_mul_right _ this
 have hcl:M.length*k<=cur.size:=by grind
 have hst:=run_storeCells_at P b (i.toNat*k) T' us 0 cur w p2 oM (iX q2 hk1);have hsize:us.length=k:=oM;have hes:((M.set i.toNat z).map (aS E)).flatten=(M.map (aS E)).flatten.take (i.toNat*k)++aS E z++(M.map (aS E)).flatten.drop (i.toNat*k+k):=by grind [List.drop_left]
 have hnew:RAs m φ w ((M.set i.toNat z).map (aS E)).flatten (xs.take (i.toNat*k)++us++xs.drop (i.toNat*k+k)):=by grind [ba,cW,cX]
 have htk:((cur.toList.take (i.toNat*k)++us++cur.toList.drop (i.toNat*k+k)).toArray.toList).take ((M.map (aS E)).length*k)=xs.take (i.toNat*k)++us++xs.drop (i.toNat*k+k):=by
  rw[List.length_map,<-p6];generalize i.toNat*k=off at*
  apply List.ext_getElem?;intro j;have hcz:cur.toList.length=cur.size:=sM;simp only[List.getElem?_take,List.getElem?_append,List.length_append,List.length_take,List.getElem?_drop,hsize,hcz];rw[Nat.min_eq_left (show off<=cur.size by omega),Nat.min_eq_left (show M.length*k<=cur.size by omega),Nat.min_eq_left (show off<=M.length*k by omega)];by_cases h1:j<M.length*k;rw[if_pos h1];by_cases h2:j<off+k;grind;grind;grind
 have hej:(bu E L)[j]? =some (M.map (aS E)):=by simp[bu,hj]
 obtain⟨k1,k2⟩:=wE hs hi h1 h2 hej hnew sM (λe he=>by
  obtain⟨q,_,rfl⟩:=List.mem_map.1 he;rw[aS,List.length_map,hE]) cur p2 (cur.toList.take (i.toNat*k)++us++cur.toList.drop (i.toNat*k+k)).toArray (by simp[hsize];omega) htk
 have hfam:(bu E L).set j ((M.set i.toNat z).map (aS E))=bu E (L.set j (M.set i.toNat z)):=by simp[bu,List.map_set]
 rw[hfam] at k2;refine⟨undef,_,m,φ, .inr ⟨?_,rfl⟩,k1,k2,RAv⟩;simp[execOp,Instr.storeAt,Instr.sureAddr,h3,storeVar,q1,bG hn,hsize,hst]
theorem wM{α:Type}{E:α->List D}{L:List (List α)}{m φ a w}{x:Operand}{fid j vf off T k:Nat}(hs:SR m φ st w)(he:EnvOk m φ w env a)(hx:opv env x=some (.pem fid j vf off))(hi:st[fid]? =some (.fam T k vf (bu E L))):∃p,a.eval x= .pointer (some p):=by have h:=bv he hx;obtain⟨v0,ys,h1,_,h3⟩:=h;obtain⟨ys',h4,_⟩:=hs.obj _ _ _ hi h1;grind
theorem eW{α:Type}{E:α->List D}{L:List (List α)}{x:Operand}{fid j vf off Te k:Nat}(hx:opv env x=some (.pem fid j vf off))(hi:st[fid]? =some (.fam Te k vf (bu E L))):Yields P env st ⟨dst, .nilCheck x,ty,pos,after,guard⟩ (.pem fid j vf off):=λm φ a w hs he=>by
 obtain⟨p,h2⟩:=wM hs he hx hi;refine⟨_,bv he hx,λw' _=>?_⟩;simp[execOp,h2]
end
end Go.Sk
namespace Go.Sk
open Go.RowKit (Below)
section
variable{P:Program}{env:Env}{st:List AO}{dst:Option Tmp}{ty:TypeId}{pos:String}{after:Array Edge}{guard:Option (Nat×Bool)}
end
section
variable{P:Program}{fn:Func}{env:Env}{st st':List AO}{f:FuncId}{caps:List AV}{k:Nat}
end
end Go.Sk
namespace Go.Sk
open Go.RowKit (Below)
section
variable{P:Program}{e:En}{ops:Array Oper}{rest:List Oper}{env:Env}{st:List AO}{R:Env->List AO->Prop}{ty:TypeId}{pos:String}{after:Array Edge}{guard:Option (Nat×Bool)}
end
def rsvs(k:Nat)(st:List AO):Bool:=(List.range k).all λi=>match st[i]? with|some .rsv=>true|_=>false
theorem pZ{k:Nat}{st:List AO}(h:rsvs k st=true){i:Nat}(hi:i<k):st[i]? =some .rsv:=by have:=List.all_eq_true.1 h i (List.mem_range.2 hi);split at this;assumption;cases this
end Go.Sk
namespace Go.Sk
open Go.RowKit (Below)
def Cz.rv(t:Nat):Cz->Cz
 | .tok _ y=> .tok t y
 | .fam _ ys=> .fam t ys
 |c=>c
theorem ja{t:Nat}{c:Cz}{b:Nat}:(c.rv t).has b↔c.has b:=by cases c<;>exact Iff.rfl
mutual
def AV.rv(cur T:Nat->Nat):AV->AV
 | .d x=> .d x
 | .pt i o=> .pt i o
 | .os i v=>bif Nat.beq v (cur i) then .os i (T i) else .u
 | .osf i j v=>bif Nat.beq v (cur i) then .osf i j (T i) else .u
 | .tu l=> .tu (AV.rvs cur T l)
 |_=> .u
def AV.rvs(cur T:Nat->Nat):List AV->List AV
 |[]=> []
 |x::l=>AV.rv cur T x::AV.rvs cur T l
end
theorem nm(cur T:Nat->Nat):∀l:List AV,AV.rvs cur T l=l.map (AV.rv cur T)
 |[]=>rfl
 |x::l=>by rw[AV.rvs,nm cur T l];rfl
def AO.rv(cur T:Nat->Nat)(i:Nat):AO->AO
 | .row t cs=> .row t (cs.map (AV.rv cur T))
 | .os t k _ es=> .os t k (T i) (es.map λe=>e.map (AV.rv cur T))
 | .fam t k _ ess=> .fam t k (T i) (ess.map λes=>es.map λe=>e.map (AV.rv cur T))
 | .rsv=> .rsv
 |_=> .dead
def AO.curOk(cur:Nat->Nat)(i:Nat):AO->Prop
 | .os _ _ v _=>v=cur i
 | .fam _ _ v _=>v=cur i
 |_=>True
section
variable{m m3:List Cz}{φ:Nat->Nat}{w:World}{cur T:Nat->Nat}
mutual
theorem RA.rv(h3:∀(i:Nat)(c:Cz),m[i]? =some c->m3[i]? =some (c.rv (T i)))(hc:∀(i v:Nat)(y:Value),m[i]? =some (.tok v y)->v=cur i)(hf:∀(i v:Nat)(y:List Value),m[i]? =some (.fam v y)->v=cur i):∀(x:AV)(y:Value),RA m φ w x y->RA m3 φ w (x.rv cur T) y
 | .d x,y,h=>by simpa[RA,AV.rv] using h
 | .pt i o,y,h=>by
  obtain⟨b,h1,h2⟩:=h;exact⟨b,h3 _ _ h1,h2⟩
 | .os i v,y,h=>by
  obtain⟨v0,y0,h1,_,h2⟩:=h;simp only[AV.rv];cases hb:Nat.beq v (cur i) with
  |false=>simp[RA]
  |true=>have hv:=nbE hb;have:=hc i _ _ h1;exact⟨T i,y0,h3 _ _ h1,Nat.le_refl _,λ_=>h2 oM⟩
 | .osf i j v,y,h=>by
  obtain⟨v0,y0,h1,_,h2⟩:=h;simp only[AV.rv];cases hb:Nat.beq v (cur i) with
  |false=>simp[RA]
  |true=>have hv:=nbE hb;have:=hf i _ _ h1;exact⟨T i,y0,h3 _ _ h1,Nat.le_refl _,λ_=>h2 oM⟩
 | .tu l,y,h=>by
  obtain⟨cs,h1,h2⟩:=h;exact⟨cs,h1,RAs.rv h3 hc hf l cs h2⟩
 | .u,_,_=>by simp[AV.rv,RA]
 | .ag _,_,_=>by simp[AV.rv,RA]
 | .sr _ _ _ _,_,_=>by simp[AV.rv,RA]
 | .fn _ _ _,_,_=>by simp[AV.rv,RA]
 | .mp _,_,_=>by simp[AV.rv,RA]
 | .pe _ _ _,_,_=>by simp[AV.rv,RA]
 | .ow _ _ _ _ _,_,_=>by simp[AV.rv,RA]
 | .fs _,_,_=>by simp[AV.rv,RA]
 | .ifc _ _,_,_=>by simp[AV.rv,RA]
 | .pem _ _ _ _,_,_=>by simp[AV.rv,RA]
 | .yl _,_,_=>by simp[AV.rv,RA]
 | .kv _ _,_,_=>by simp[AV.rv,RA]
theorem RAs.rv(h3:∀(i:Nat)(c:Cz),m[i]? =some c->m3[i]? =some (c.rv (T i)))(hc:∀(i v:Nat)(y:Value),m[i]? =some (.tok v y)->v=cur i)(hf:∀(i v:Nat)(y:List Value),m[i]? =some (.fam v y)->v=cur i):∀(xs:List AV)(ys:List Value),RAs m φ w xs ys->RAs m3 φ w (AV.rvs cur T xs) ys
 |[],ys,h=>by simpa[RAs,AV.rvs] using h
 |x::xs,ys,h=>by
  obtain⟨c,cs,h1,h2,h4⟩:=h;exact⟨c,cs,h1,RA.rv h3 hc hf x c h2,RAs.rv h3 hc hf xs cs h4⟩
end
theorem RAs.rvm(h3:∀(i:Nat)(c:Cz),m[i]? =some c->m3[i]? =some (c.rv (T i)))(hc:∀(i v:Nat)(y:Value),m[i]? =some (.tok v y)->v=cur i)(hf:∀(i v:Nat)(y:List Value),m[i]? =some (.fam v y)->v=cur i){xs:List AV}{ys:List Value}(h:RAs m φ w xs ys):RAs m3 φ w (xs.map (AV.rv cur T)) ys:=by rw[<-nm];exact RAs.rv h3 hc hf xs ys h
theorem OR.rv(h3:∀(i:Nat)(c:Cz),m[i]? =some c->m3[i]? =some (c.rv (T i)))(hc:∀(i v:Nat)(y:Value),m[i]? =some (.tok v y)->v=cur i)(hf:∀(i v:Nat)(y:List Value),m[i]? =some (.fam v y)->v=cur i){i:Nat}{o:AO}{c:Cz}(h:OR m φ w o c):OR m3 φ w (o.rv cur T i) (c.rv (T i)):=by
 cases o with
 |row t cs=>obtain⟨b,rfl,h0,vs,h1,h2⟩:=h;exact⟨b,rfl,h0,vs,h1,h2.rvm h3 hc hf⟩
 |os t k v es=>obtain⟨y,xs,rfl,h1,h2,h4,h5⟩:=h;refine⟨y,xs,rfl,by rw[List.length_map];exact h1,?_,λe he=>?_,h5⟩;rw[eE];exact h2.rvm h3 hc hf;grind
 |fam t k v ess=>
  obtain⟨ys,rfl,h1,h2,h4⟩:=h;refine⟨ys,rfl,by rw[List.length_map];exact h1,λj es y hj hy=>?_,h4⟩;rw[List.getElem?_map] at hj;cases hg:ess[j]? with
  |none=>grind
  |some es0=>rw[hg,Option.map_some,aK] at hj;subst hj;obtain⟨xs,g1,g2,g3,g4⟩:=h2 j es0 y hg hy;refine⟨xs,by rw[List.length_map];exact g1,?_,λe he=>?_,g4⟩;rw[eE];exact g2.rvm h3 hc hf;grind
 |rsv=>simp only[OR] at h;subst h;rfl
 |_=>trivial
end
def gf(cur T:Nat->Nat):Nat->List AO->List AO
 |_,[]=> []
 |i,o::l=>o.rv cur T i::gf cur T (i+1) l
theorem ms{cur T:Nat->Nat}:∀{l:List AO}{k i:Nat},(gf cur T k l)[i]? =(l[i]?).map (AO.rv cur T (k+i))
 |[],k,i=>by simp[gf]
 |o::l,k,0=>by simp[gf]
 |o::l,k,i+1=>by simp only[gf,List.getElem?_cons_succ,ms (l:=l)];congr 2;omega
theorem jA{cur T:Nat->Nat}:∀{l:List AO}{k:Nat},(gf cur T k l).length=l.length
 |[],_=>rfl
 |o::l,k=>by simp[gf,jA (l:=l)]
def l9(T:Nat->Nat):Nat->List Cz->List Cz
 |_,[]=> []
 |i,c::l=>c.rv (T i)::l9 T (i+1) l
theorem jZ{T:Nat->Nat}:∀{l:List Cz}{k i:Nat},(l9 T k l)[i]? =(l[i]?).map (λc=>c.rv (T (k+i)))
 |[],k,i=>by simp[l9]
 |o::l,k,0=>by simp[l9]
 |o::l,k,i+1=>by simp only[l9,List.getElem?_cons_succ,jZ (l:=l)];congr 2;funext c;congr 1;congr 1;omega
theorem mu{T:Nat->Nat}:∀{l:List Cz}{k:Nat},(l9 T k l).length=l.length
 |[],_=>rfl
 |o::l,k=>by simp[l9,mu (l:=l)]
theorem np{cur T:Nat->Nat}{i:Nat}{o:AO}(h:(o.rv cur T i).live=true):o.live=true:=by cases o<;>first|rfl|exact h|(simp[AO.rv,AO.live] at h)
theorem SR.rv{m:List Cz}{φ w}{st:List AO}{cur T:Nat->Nat}(hs:SR m φ st w)(hcur:∀(i:Nat)(o:AO),st[i]? =some o->o.curOk cur i)(hall:∀o∈st,o≠ .dead/\(∀s p,o≠ .si s p)/\(∀a b c d,o≠ .lp a b c d)/\∀l,o≠ .mp l):
  SR (l9 T 0 m) φ (gf cur T 0 st) w/\(∀x v,RA m φ w x v->RA (l9 T 0 m) φ w (x.rv cur T) v):=by
 have h3:∀(i:Nat)(c:Cz),m[i]? =some c->(l9 T 0 m)[i]? =some (c.rv (T i)):=λi c h=>by rw[jZ,h];simp
 have hobj:∀(i:Nat)(c:Cz),m[i]? =some c->∃o,st[i]? =some o/\OR m φ w o c:=λi c h=>by
  have hi:i<st.length:=by rw[<-hs.len];exact(giS.1 h).1
  exact⟨_,geG hi,hs.obj i _ c (geG hi) h⟩
 have hc:∀(i v:Nat)(y:Value),m[i]? =some (.tok v y)->v=cur i:=λi v y h=>by
  obtain⟨o,h1,h2⟩:=hobj i _ h;have h4:=hcur i o h1;have h5:=hall o (List.mem_of_getElem? h1);cases o with
  |os t k v' es=>obtain⟨y',_,h6,_⟩:=h2;simp only[Cz.tok.injEq] at h6;rw[h6.1];exact h4
  |row t cs=>obtain⟨b,h6,_⟩:=h2;cases h6
  |fam t k v' es=>obtain⟨ys,h6,_⟩:=h2;cases h6
  |rsv=>grind [OR]
  |dead=>grind
  |mp l=>grind
  |si s p=>grind
  |mb a b c=>obtain⟨b,h6,_⟩:=h2;cases h6
  |it a b c d=>obtain⟨b,h6,_⟩:=h2;cases h6
  |lp a b c d=>grind
 have hf:∀(i v:Nat)(y:List Value),m[i]? =some (.fam v y)->v=cur i:=λi v y h=>by
  obtain⟨o,h1,h2⟩:=hobj i _ h;have h4:=hcur i o h1;have h5:=hall o (List.mem_of_getElem? h1);cases o with
  |os t k v' es=>obtain⟨y',_,h6,_⟩:=h2;cases h6
  |row t cs=>obtain⟨b,h6,_⟩:=h2;cases h6
  |fam t k v' es=>obtain⟨ys,h6,_⟩:=h2;simp only[Cz.fam.injEq] at h6;rw[h6.1];exact h4
  |rsv=>grind [OR]
  |dead=>grind
  |mp l=>grind
  |si s p=>grind
  |mb a b c=>obtain⟨b,h6,_⟩:=h2;cases h6
  |it a b c d=>obtain⟨b,h6,_⟩:=h2;cases h6
  |lp a b c d=>grind
 have back:∀(i:Nat)(c:Cz),(l9 T 0 m)[i]? =some c->∃c0,m[i]? =some c0/\c=c0.rv (T i):=λi c h=>by
  rw[jZ] at h;grind
 have backO:∀(i:Nat)(o:AO),(gf cur T 0 st)[i]? =some o->∃o0,st[i]? =some o0/\o=o0.rv cur T i:=λi c h=>by
  rw[ms] at h;grind
 refine⟨⟨by rw[mu,jA];exact hs.len,λi o c h1 h2=>?_,hs.lt,λi j o o' c c' b h1 h2 l1 l2 k1 k2 e1 e2=>?_,hs.gl,λb ⟨i,c,h1,h2⟩=>?_⟩,λx v h=>RA.rv h3 hc hf x v h⟩;grind [OR.rv];obtain⟨o0,g1,rfl⟩:=backO i o h1;obtain⟨o1,g2,rfl⟩:=backO j o' h2;obtain⟨c0,g3,rfl⟩:=back i c k1;obtain⟨c1,g4,rfl⟩:=back j c' k2;exact hs.inj i j o0 o1 c0 c1 b g1 g2 (np l1) (np l2) g3 g4 (ja.1 e1) (ja.1 e2);obtain⟨c0,g3,rfl⟩:=back i c h1;exact hs.nb b ⟨i,c0,g3,ja.1 h2⟩
def AO.plainB:AO->Bool| .dead=>false| .si _ _=>false| .lp _ _ _ _=>false| .mp _=>false|_=>true
theorem qd{l:List AO}(h:l.all AO.plainB=true):∀o∈l,o≠ .dead/\(∀s p,o≠ .si s p)/\(∀a b c d,o≠ .lp a b c d)/\∀l,o≠ .mp l:=by grind [AO.plainB]
def rV(cur:Nat->Nat):Nat->List AO->Prop
 |_,[]=>True
 |i,o::l=>o.curOk cur i/\rV cur (i+1) l
theorem mS{cur:Nat->Nat}:∀{l:List AO}{k:Nat},rV cur k l->∀(i:Nat)(o:AO),l[i]? =some o->o.curOk cur (k+i)
 |o::l,k,h,0,o',ho=>by simp only[List.getElem?_cons_zero,aK] at ho;subst ho;exact h.1
 |o::l,k,h,i+1,o',ho=>by
  have:=mS h.2 i o' (by simpa using ho);grind
 |[],_,_,i,o',ho=>by simp at ho
theorem fW{P:Program}{fn:Func}{env:Env}{st st1:List AO}{k:Nat}{S:AV->List AO->Prop}{m0 φ0 w0 n}{r r1 r2:AV}(perm:List Nat)(r0:AV)(new:List AO)(cur T:Nat->Nat){new' new2:List AO}(hr:Res P fn env st r)(hrr:r0.ren perm=r1)(hl:Le r r1)(hwk:SLe st st1)
  (hp:perm.Nodup)(hren:new.map (AO.ren perm)=new')(hwin:e9 perm st1 new')(hlt:dg perm.length new=true)(hr0:r0.lt perm.length=true)(hm0:m0.length=k)(hk:k=perm.length)
  (hfix:rsvs k st=true)(hcur:rV cur 0 new)(hpl:new.all AO.plainB=true)(hn2:gf cur T 0 new=new2)(hr2:r0.rv cur T=r2)(hS:S r2 new2):WE P ⟨m0,φ0,w0,n,none,none⟩ .ret (.fin fn (eN k S)) env st:=λm φ a w hi=>by
 have h:=eD (F:=EF none) (n:=0) (e:=⟨m0,φ0,w0,n,none,none⟩) (Q:=λr' st'=>r'=r0.ren perm/\st'=st) (hr.le (by rw[hrr];exact hl)) ⟨rfl,rfl⟩ a.defers w hi.df.marks hi.sr hi.env hi.ev;refine LeavesInM.mono (R:=dV ⟨m0,φ0,w0,n,none,none⟩ λr' st'=>r'=r0.ren perm/\st'=st) ?_ _ _ _ h;rintro en w' ⟨v,r',st',m',φ',rfl,⟨rfl,rfl⟩,hev,hsr,hra⟩;obtain⟨m2,g1,g2,g3⟩:=wA hsr hev hra hwk hp (by rw[hren];exact hwin) hlt hr0 (by show m0.length=_;rw[hm0,hk]) (λi hi=> .inr (pZ hfix oM));have hnl:new.length=k:=by grind [dZ,List.length_map]
 obtain⟨q1,q2⟩:=SR.rv (T:=T) g2 (λi o ho=>by have:=mS hcur i o ho;rwa [Nat.zero_add] at this) (qd hpl);rw[hn2] at q1;have q3:=q2 _ _ g3;rw[hr2] at q3;have hl2:new2.length=k:=by grind [jA]
 have hm2:m2.length=k:=by rw[g2.len,hnl]
 have hrs:∀(i:Nat)(c:Cz),m0[i]? =some c->c= .non:=λi c hc=>by
  have hik:i<k:=by grind
  obtain⟨c',h1,h2⟩:=hev.pre i c hc;have h3:c'= .non:=hsr.obj i _ c' (pZ hfix hik) h1;subst h3;cases c with
  |non=>rfl
  |blk b=>simp[Cz.le] at h2
  |tok v y=>simp[Cz.le] at h2
  |fam v y=>simp[Cz.le] at h2
 refine⟨v,r2,new2,_,φ',rfl,⟨oM,by rw[<-hl2,List.take_length];exact hS⟩,⟨λi c hc=>?_,λb ⟨i,c,h1,h2⟩=>?_,g1.os,g1.tape,g1.output,g1.size,g1.keep,g1.fz⟩,q1,q3⟩;have:=hrs i c hc;subst this;have hik:i<(l9 T 0 m2).length:=by grind [mu]
 exact⟨_,geG hik,trivial⟩;rw[jZ] at h1;cases hg:m2[i]? with
 |none=>grind
 |some c0=>rw[hg,Option.map_some,aK] at h1;subst h1;exact g1.new b ⟨i,c0,hg,ja.1 h2⟩
theorem sn{α:Type}(cur T:Nat->Nat)(i t k v:Nat)(E:α->List D)(L:List α):AO.rv cur T i (.os t k v (L.map (aS E)))= .os t k (T i) (L.map (aS E)):=by simp only[AO.rv,List.map_map,AO.os.injEq,true_and];refine List.map_congr_left λx _=>?_;simp only[Function.comp,aS,List.map_map];exact List.map_congr_left λd _=>rfl
end Go.Sk
namespace Go.Sk
open Go.RowKit (Below)
section
variable{P:Program}{env:Env}{st:List AO}{dst:Option Tmp}{ty:TypeId}{pos:String}{after:Array Edge}{guard:Option (Nat×Bool)}
end
end Go.Sk
