/-
  Maps of our own: keys of one plain kind, the entries in the order of their insertion.
-/
import Derived.MapKept
import Derived.Laws.StructEq
import Derived.Laws.Cover3
import Derived.Laws.Pointers
import Derived.Laws.Strings3
import Derived.Laws.DeepStrings4
import Derived.Laws.Strings
import Derived.Shelf.Spec.SlicesInsert
import Derived.Shelf.Spec.SlicesInsertGrow
import Derived.WideKeyRuns
import Derived.Test.YtkbahggepncliaaGreatDoorSa
set_option linter.unusedVariables false
set_option linter.unusedSimpArgs false
set_option linter.unusedSectionVars false
set_option linter.unnecessarySimpa false
namespace Go.Sk
open Go.RowKit (Below)
open Go.MapKept (IsKey sameNow_of_keys run_getObj_map run_setObj_map run_checkKey run_findKey run_keyThatStays)
def cA{κ α:Type}[DecidableEq κ]:List (κ×α)→κ→Option α
 |[],_=>none
 |p::r,k=>if p.1=k then some p.2 else cA r k
def cq{κ α:Type}[DecidableEq κ]:List (κ×α)→κ→α→List (κ×α)
 |[],k,v=> [(k,v)]
 |p::r,k,v=>if p.1=k then(k,v)::r else p::cq r k v
structure KeyF{κ:Type}(d:TypeDesc)(kf:κ→Value):Prop where
 key:∀a,IsKey d (kf a)
 inj:∀a b,kf a=kf b→a=b
theorem KeyF.int(k:IntKind):KeyF (.int k) (λx:Int=> .int k x):=⟨λ_=>rfl,λa b h=>by injection h⟩
section
variable{κ α:Type}[DecidableEq κ]{d:TypeDesc}{kf:κ→Value}
theorem fp(hK:KeyF d kf)(k:κ):∀(L:List (κ×α))(l:List MapEntry)(i:Nat),l.map (·.key)=L.map (λp=>kf p.1)→
  (cA L k=none∧Instr.findNow d (kf k) l i=some none∧∀v,cq L k v=L++ [(k,v)])∨
  ∃j e x,l[j]? =some e∧L[j]? =some (k,x)∧cA L k=some x∧e.key=kf k∧Instr.findNow d (kf k) l i=some (some (i+j,e.val))∧∀v,cq L k v=L.set j (k,v)
 |[],[],i,_=> .inl ⟨rfl,rfl,λ_=>rfl⟩
 |p::L,e::l,i,h=>by
  simp only[List.map_cons,List.cons.injEq] at h
  obtain⟨r,hr,hiff⟩:=sameNow_of_keys (hK.key k) (h.1▸hK.key p.1:IsKey d e.key)
  by_cases hp:p.1=k
  ·refine .inr ⟨0,e,p.2,rfl,by simp[←hp],by simp[cA,hp],by rw[h.1,hp],?_,λv=>by simp[cq,hp]⟩
   have:r=true:=hiff.2 (by rw[h.1,hp])
   simp[Instr.findNow,hr,this]
  ·have hne:r=false:=by
    cases r with
    |false=>rfl
    |true=>exact absurd (hK.inj _ _ ((hiff.1 rfl).trans h.1)).symm hp
   rcases fp hK k L l (i+1) h.2 with⟨h1,h2,h3⟩|⟨j,e',x,h1,h2,h3,h4,h5,h6⟩
   ·exact .inl ⟨by simp[cA,hp,h1],by simp[Instr.findNow,hr,hne,h2],λv=>by simp[cq,hp,h3]⟩
   ·exact .inr ⟨j+1,e',x,by simpa using h1,by simpa using h2,by simp[cA,hp,h3],h4,by simp[Instr.findNow,hr,hne,h5];omega,λv=>by simp[cq,hp,h6]⟩
 |[],_::_,_,h=>by simp at h
 |_::_,[],_,h=>by simp at h
end
theorem kw{m φ w}:∀{xs:List AV}{vs:List Value}{i:Nat}{y:AV}{u:Value},RAs m φ w xs vs→RA m φ w y u→RAs m φ w (xs.set i y) (vs.set i u)
 |[],vs,i,y,u,h,_=>by simp only[RAs] at h;subst h;simp[RAs]
 |p::xs,vs,i,y,u,h,hy=>by
  simp only[RAs] at h
  obtain⟨c,cs,rfl,h1,h2⟩:=h
  cases i with
  |zero=>exact aK hy h2
  |succ i=>exact aK h1 (kw h2 hy)
section
variable{P:Program}{env:Env}{st:List AO}{dst:Option Tmp}{ty:TypeId}{pos:String}{after:Array Edge}{guard:Option (Nat×Bool)}
variable{κ α:Type}
abbrev mpO(kf:κ→Value)(g:α→AV)(L:List (κ×α)):AO:= .mp (L.map λp=>(kf p.1,g p.2))
theorem gu{T:TypeId}(kf:κ→Value)(g:α→AV):DoesB P env st ⟨dst, .makeMap T none,ty,pos,after,guard⟩ (.mp st.length) (st++ [mpO kf g []]):=λm φ a w hs he=>by
 have hF:=Fz.alloc hs (.map #[] 0)
 have hk:∀b,b<w.heap.size→(w.alloc (.map #[] 0)).heap[b]? =w.heap[b]? :=λb hb=>bt hb
 have hnew:∀b,(Cz.blk w.heap.size).has b→w.heap.size≤b:=λb hb=>by simp only[Cz.has] at hb;omega
 refine⟨.map (some w.heap.size),w.alloc (.map #[] 0),m++ [.blk w.heap.size],φ,rfl,Ev.push hs hF hk sM rfl rfl rfl hnew,SR.push hs hF hk sM ?_ hnew,?_,(Below.refl _ _).alloc (Nat.le_refl _) _⟩
 ·exact⟨w.heap.size,rfl,hs.lt _ (Nat.le_refl _),[],0,heap_alloc_new w _,rfl,bZ⟩
 ·simp only[RA];exact⟨_,by rw[←hs.len];simp,rfl⟩
variable [DecidableEq κ]
theorem jS{m φ w a}{x:Operand}{id:Nat}(he:EnvOk m φ w env a)(h:opv env x=some (.mp id)):∃b,m[id]? =some (.blk b)∧a.eval x= .map (some b):=by
 have:=aA he h;simpa[RA] using this
theorem q'{m φ w}{id b:Nat}{es es':List (Value×AV)}{l:List MapEntry}{clock':Nat}(hs:SR m φ st w)(hi:st[id]? =some (.mp es))(hb:m[id]? =some (.blk b))(hkeys:l.map (·.key)=es'.map (·.1))(hv:RAs m φ w (es'.map (·.2)) (l.map (·.val))):
  Ev m φ w m φ { w with heap:=w.heap.setIfInBounds b (.map ⟨l⟩ clock') }∧SR m φ (st.set id (.mp es')) { w with heap:=w.heap.setIfInBounds b (.map ⟨l⟩ clock') }:=by
 obtain⟨b',hbb,h0,l0,cl0,h1,h2,h3⟩:=hs.obj id _ _ hi hb
 simp only[Cz.blk.injEq] at hbb
 subst hbb
 have hlt:=cK h1
 have hne:∀b2,b2≠b→(w.heap.setIfInBounds b (.map ⟨l⟩ clock'))[b2]? =w.heap[b2]? :=λb2 hn=>by simp[Ne.symm hn]
 have hF:Fz φ w φ { w with heap:=w.heap.setIfInBounds b (.map ⟨l⟩ clock') }:=λb2 off c g1 g2=>⟨g1,by
  have hn:b2≠b:=λe=>by subst e;omega
  rw[aP (w':={ w with heap:=w.heap.setIfInBounds b (.map ⟨l⟩ clock') }) (hne b2 hn)];exact g2⟩
 have hset:m.set id (.blk b)=m:=by
  apply List.ext_getElem?
  intro i
  by_cases hii:id=i
  ·subst hii;rw[List.getElem?_set_self (giS.1 hb).1,hb]
  ·rw[List.getElem?_set_ne hii]
 have:=gk (w':={ w with heap:=w.heap.setIfInBounds b (.map ⟨l⟩ clock') }) (φ':=φ) (o':= .mp es') (c':= .blk b) hs hi rfl hb rfl rfl rfl rfl sM (λb2 hb2 hn=>⟨hne b2 (λe=>hn (by rw[e];rfl)),rfl⟩) hF (λb2 hb2=>hs.lt b2 (by simpa using hb2)) (λb2 hb2=> .inl hb2)
  (by rw[hset];exact⟨b,rfl,h0,l,clock',by simp[hlt],hkeys,RAs.mono (Pre.refl m) hF _ _ hv⟩)
 rwa [hset] at this
theorem kH{w:World}{T kt et:TypeId}{d:TypeDesc}{kf:κ→Value}{b:Nat}{l:List MapEntry}{clock:Nat}{k:κ}{u:Value}{L:List (κ×α)}(hT:P.underlying T=some (.map kt et))(hd:P.underlying kt=some d)(hK:KeyF d kf)(hb:w.heap[b]? =some (.map ⟨l⟩ clock))
  (hl:l.map (·.key)=L.map λp=>kf p.1)(v:α):∃l' clock',(Instr.mapUpdate T (.map (some b)) (kf k) u).run P w= .ok () { w with heap:=w.heap.setIfInBounds b (.map ⟨l'⟩ clock') }∧
   l'.map (·.key)=(cq L k v).map (λp=>kf p.1)∧((cq L k v=L++ [(k,v)]∧l'.map (·.val)=l.map (·.val)++ [u])∨∃j,cq L k v=L.set j (k,v)∧l'.map (·.val)=(l.map (·.val)).set j u):=by
 rcases fp hK k L l 0 hl with⟨h1,h2,h3⟩|⟨j,e,x,h1,h2,h3,h4,h5,h6⟩
 ·refine⟨l++ [⟨kf k,u,clock⟩],clock+1,?_,by rw[h3 v];simp[hl], .inl ⟨h3 v,sM⟩⟩
  simp[Instr.mapUpdate,run_underlying hT,MapKept.run_getObj_map hb,run_checkKey hd (hK.key k),run_findKey hd h2,MapKept.run_setObj_map _ hb,Result.andThen]
 ·have hj:(⟨l⟩:Array MapEntry)[j]? =some e:=by simpa using h1
  refine⟨l.modify j (λe'=>{ e' with key:=kf k,val:=u }),clock,?_,?_, .inr ⟨j,h6 v,?_⟩⟩
  ·simp[Instr.mapUpdate,run_underlying hT,MapKept.run_getObj_map hb,run_checkKey hd (hK.key k),run_findKey hd (by simpa using h5),h1,h4,run_keyThatStays (hK.key k),MapKept.run_setObj_map _ hb,Result.andThen]
  ·rw[h6 v]
   apply List.ext_getElem?
   intro i
   have hi:=congrArg (λz=>z[i]?) hl
   simp only[List.getElem?_map] at hi
   rw[List.getElem?_map,List.getElem?_map,List.getElem?_modify,List.getElem?_set]
   by_cases hij:j=i
   ·subst hij
    simp[h1,(giS.1 h2).1]
   ·simp[hij];simpa using hi
  ·apply List.ext_getElem?
   intro i
   rw[List.getElem?_map,List.getElem?_modify,List.getElem?_set]
   by_cases hij:j=i
   ·subst hij
    simp[(giS.1 h1).1]
   ·simp[hij]
theorem aO{T kt et:TypeId}{d:TypeDesc}{o:Oper}{x ki v:Operand}{id:Nat}(kf:κ→Value)(g:α→AV)(L:List (κ×α)){k:κ}{u:α}(ho:(o=⟨dst, .insert T x ki v,ty,pos,after,guard⟩)∨(o=⟨dst, .mapUpdate T x ki v,ty,pos,after,guard⟩))(hT:P.underlying T=some (.map kt et))(hd:P.underlying kt=some d)(hK:KeyF d kf)
  (hx:opv env x=some (.mp id))(hi:st[id]? =some (mpO kf g L))(hk:opv env ki=some (.d (.v (kf k))))(hv:opv env v=some (g u)):
  gA P env st o (.d (.v undef)) (st.set id (mpO kf g (cq L k u))):=λm φ a w hs he=>by
 obtain⟨b,h1,h2⟩:=jS he hx
 obtain⟨b',hbb,h0,l,cl,g1,g2,g3⟩:=hs.obj id _ _ hi h1
 simp only[Cz.blk.injEq] at hbb
 subst hbb
 have hkeys:l.map (·.key)=L.map (λp=>kf p.1):=by rw[g2];simp
 obtain⟨l',clock',r1,r2,r3⟩:=kH (P:=P) (k:=k) (u:=a.eval v) (w:=w) hT hd hK g1 hkeys u
 have hru:=aA he hv
 have hvals:RAs m φ w (((cq L k u).map λp=>(kf p.1,g p.2)).map (·.2)) (l'.map (·.val)):=by
  rw[List.map_map] at g3⊢
  rcases r3 with⟨e1,e2⟩|⟨j,e1,e2⟩
  ·rw[e1,e2,List.map_append];exact aD g3 (aK hru bZ)
  ·rw[e1,e2,List.map_set];exact kw g3 hru
 obtain⟨k1,k2⟩:=q' (clock':=clock') hs hi h1 (by rw[r2];simp) hvals
 refine⟨undef,_,m,φ, .inr ⟨?_,rfl⟩,k1,k2,RAv⟩
 have hkv:=aN he hk
 rcases ho with rfl|rfl<;>simp[execOp,h2,hkv,r1]
theorem mz{T kt et:TypeId}{d:TypeDesc}{x ki:Operand}{id:Nat}(kf:κ→Value)(g:α→AV)(L:List (κ×α)){k:κ}{z:α}{zv:Value}(hT:P.underlying T=some (.map kt et))(hd:P.underlying kt=some d)(hK:KeyF d kf)
  (hx:opv env x=some (.mp id))(hi:st[id]? =some (mpO kf g L))(hk:opv env ki=some (.d (.v (kf k))))(hz:(P.info? et).bind (·.zero)=some zv)(hgz:g z= .d (.v zv)):
  Yields P env st ⟨dst, .lookup T x ki false,ty,pos,after,guard⟩ (g ((cA L k).getD z)):=λm φ a w hs he=>by
 obtain⟨b,h1,h2⟩:=jS he hx
 obtain⟨b',hbb,h0,l,cl,g1,g2,g3⟩:=hs.obj id _ _ hi h1
 simp only[Cz.blk.injEq] at hbb
 subst hbb
 have hkeys:l.map (·.key)=L.map (λp=>kf p.1):=by rw[g2];simp
 have hkv:=aN he hk
 have hlt:=cK g1
 cases hinf:P.info? et with
 |none=>simp[hinf] at hz
 |some i=>
  simp only[hinf,bnS] at hz
  rcases fp hK k L l 0 hkeys with⟨q1,q2,_⟩|⟨j,e,y,q1,q2,q3,q4,q5,_⟩
  ·refine⟨zv,by rw[q1,Option.getD_none,hgz];exact RAv,λw' hb=>?_⟩
   have g1':w'.heap[b]? =some (.map ⟨l⟩ cl):=by rw[hb.block b hlt];exact g1
   simp[execOp,Instr.lookup,h2,hkv,run_underlying hT,MapKept.run_getObj_map g1',run_checkKey hd (hK.key k),run_findKey hd q2,zeroValue,typeInfo,hinf,hz,Result.andThen]
  ·have hval:RA m φ w (g y) e.val:=by
    have:(((L.map λp=>(kf p.1,g p.2)).map (·.2)))[j]? =some (g y):=by simp[q2]
    obtain⟨v',hv1,hv2⟩:=ce g3 this
    simp only[List.getElem?_map,q1,Option.map_some,aq] at hv1
    rw[hv1];exact hv2
   refine⟨e.val,by rw[q3,Option.getD_some];exact hval,λw' hb=>?_⟩
   have g1':w'.heap[b]? =some (.map ⟨l⟩ cl):=by rw[hb.block b hlt];exact g1
   simp[execOp,Instr.lookup,h2,hkv,run_underlying hT,MapKept.run_getObj_map g1',run_checkKey hd (hK.key k),run_findKey hd q5,Result.andThen]
end
end Go.Sk
namespace Go.Sk
open Go.RowKit (Below)
def FL(base:Env)(L:Nat→Bool):List (Nat×Nat×AV)→Env
 |[]=>base
 |(k,d,r)::rest=>bif L k then(d,r)::FL base L rest else FL base L rest
def bU:List Oper→List AV→Nat→List (Nat×Nat×AV)
 |o::l,r::rs,k=>(match o.dst with|some d=>(k,d,r)::bU l rs (k+1)|none=>bU l rs (k+1))
 |_,_,_=> []
theorem aM(k:Nat)(v:AV)(r:Env)(t:Nat):Env.get ((k,v)::r) t=if t=k then some v else Env.get r t:=by
 conv=>lhs;unfold Env.get
 by_cases h:t=k
 ·subst h;simp
 ·have:Nat.beq t k=false:=by
   cases hb:Nat.beq t k with
   |false=>rfl
   |true=>exact absurd (nbE hb) h
  rw[this,if_neg h];rfl
theorem oR{base:Env}{L:Nat→Bool}{k d:Nat}{r:AV}:∀{reg:List (Nat×Nat×AV)},(reg.map (·.2.1)).Nodup→(k,d,r)∈reg→L k=true→(FL base L reg).get d=some r
 |(j,d',r')::reg,hn,hm,hL=>by
  simp only[List.map_cons,List.nodup_cons] at hn
  rcases List.mem_cons.1 hm with h|h
  ·simp only[Prod.mk.injEq] at h
   obtain⟨rfl,rfl,rfl⟩:=h
   simp[FL,hL,aM]
  ·have hne:d≠d':=λhe=>hn.1 (by subst he;exact List.mem_map.2 ⟨_,h,rfl⟩)
   have:=oR (base:=base) hn.2 h hL
   unfold FL
   cases L j
   ·exact this
   ·rw[cdT,aM,if_neg hne];exact this
theorem pE{base:Env}{L:Nat→Bool}{t:Nat}:∀{reg:List (Nat×Nat×AV)},(∀k r,(k,t,r)∈reg→L k=false)→(FL base L reg).get t=base.get t
 |[],_=>rfl
 |(j,d',r')::reg,h=>by
  have ih:=pE (base:=base) (L:=L) (t:=t) (reg:=reg) (λk r hm=>h k r (List.mem_cons_of_mem _ hm))
  unfold FL
  cases hL:L j
  ·exact ih
  ·have hne:t≠d':=λhe=>by
    have:=h j r' (by rw[he];exact List.mem_cons_self)
    rw[hL] at this;cases this
   rw[cdT,aM,if_neg hne];exact ih
theorem pD{base:Env}{L L':Nat→Bool}{k t:Nat}:∀{reg:List (Nat×Nat×AV)},(∀j,j≠k→L' j=L j)→(∀r,(k,t,r)∉reg)→(FL base L' reg).get t=(FL base L reg).get t
 |[],_,_=>rfl
 |(j,d',r')::reg,h,hk=>by
  have ih:=pD (base:=base) (reg:=reg) h (λr hr=>hk r (List.mem_cons_of_mem _ hr))
  unfold FL
  by_cases hjk:j=k
  ·subst hjk
   have hne:t≠d':=λhe=>hk r' (by rw[he];exact List.mem_cons_self)
   cases L' j<;>cases L j<;>simp only[cdT,cdF,aM,if_neg hne,ih]
  ·rw[h j hjk]
   cases L j
   ·exact ih
   ·rw[cdT,cdT,aM,aM,ih]
theorem kZ:∀{l:List Oper}{rs:List AV}{k j d:Nat}{r:AV},(j,d,r)∈bU l rs k→k≤j∧∃o,l[j - k]? =some o∧o.dst=some d∧rs[j - k]? =some r
 |[],rs,k,j,d,r,h=>by simp[bU] at h
 |o::l,[],k,j,d,r,h=>by simp[bU] at h
 |o::l,r0::rs,k,j,d,r,h=>by
  unfold bU at h
  have key:(j,d,r)∈bU l rs (k+1)→k≤j∧∃o',(o::l)[j - k]? =some o'∧o'.dst=some d∧(r0::rs)[j - k]? =some r:=λh=>by
   obtain⟨h1,o',h2,h3,h4⟩:=kZ h
   have:j - k=(j - (k+1))+1:=oM
   exact⟨oM,o',by rw[this];simpa using h2,h3,by rw[this];simpa using h4⟩
  split at h
  ·rename_i d0 hd
   rcases List.mem_cons.1 h with h|h
   ·simp only[Prod.mk.injEq] at h
    obtain⟨rfl,rfl,rfl⟩:=h
    exact⟨Nat.le_refl _,o,sM,hd,sM⟩
   ·exact key h
  ·exact key h
theorem iH:∀{l:List Oper}{rs:List AV}{k j d:Nat}{r:AV}{o:Oper},l[j]? =some o→o.dst=some d→rs[j]? =some r→(k+j,d,r)∈bU l rs k
 |[],rs,k,j,d,r,o,h,_,_=>by simp at h
 |o0::l,[],k,j,d,r,o,_,_,h=>by simp at h
 |o0::l,r0::rs,k,0,d,r,o,h1,h2,h3=>by
  simp only[List.getElem?_cons_zero,aq] at h1 h3
  subst h1;subst h3
  simp[bU,h2]
 |o0::l,r0::rs,k,j+1,d,r,o,h1,h2,h3=>by
  have:=iH (k:=k+1) (by simpa using h1:l[j]? =some o) h2 (by simpa using h3:rs[j]? =some r)
  rw[show k+(j+1)=k+1+j by omega]
  unfold bU
  split
  ·exact List.mem_cons_of_mem _ this
  ·exact this
def sm(ops:List Oper)(tc:List (List Nat)):Bool:=
 (List.range ops.length).all λk=>match ops[k]? with
  |none=>false
  |some o=>(o.after.toList.all λe=> !(Region.binds .any e)||Nat.blt e.on k)&&
   (tc.getD k []).all λj=>o.after.toList.any λe=>Region.binds .any e&&(Nat.beq e.on j||(tc.getD e.on []).contains j)
def qm(ops:List Oper)(L:Nat→Bool):Prop:=∀(k:Nat)(o:Oper),ops[k]? =some o→L k=true→∀e∈o.after,Region.binds .any e=true→L e.on=true
theorem iE{ops:List Oper}{tc:List (List Nat)}(hok:sm ops tc=true){L:Nat→Bool}(hd:qm ops L):∀(k:Nat)(o:Oper),ops[k]? =some o→(∀e∈o.after,Region.binds .any e=true→L e.on=true)→∀j∈tc.getD k [],L j=true:=by
 intro k
 induction k using Nat.strongRecOn with
 |_ k ih=>
  intro o ho hall j hj
  have hk:k<ops.length:=(giS.1 ho).1
  have h1:=List.all_eq_true.1 hok k (List.mem_range.2 hk)
  simp only[ho,Bool.and_eq_true] at h1
  have h2:=List.any_eq_true.1 (List.all_eq_true.1 h1.2 j hj)
  obtain⟨e,he,h3⟩:=h2
  simp only[Bool.and_eq_true,Bool.or_eq_true] at h3
  have hea:e∈o.after:=Array.mem_toList_iff.1 he
  have hL:=hall e hea h3.1
  rcases h3.2 with h4|h4
  ·rw[←nbE h4];exact hL
  ·have h5:=List.all_eq_true.1 h1.1 e he
   simp only[h3.1,Bool.not_true,Bool.false_or] at h5
   have hlt:e.on<k:=by simpa[Nat.blt_eq] using h5
   cases hoe:ops[e.on]? with
   |none=>exact absurd (List.getElem?_eq_none_iff.1 hoe) oM
   |some o'=>exact ih e.on hlt o' hoe (λe' he' hb=>hd e.on o' hoe hL e' he' hb) j (by simpa using h4)
def cnt(L:Nat→Bool):List Nat→Nat
 |[]=>0
 |e::es=>bif L e then cnt L es+1 else 0
def eko(l:List Oper)(rs:List AV)(j:Nat):Option (Nat×AV):=match l[j]?,rs[j]? with
 |some o,some r=>o.dst.map λd=>(d,r)
 |_,_=>none
def ekB(base:Env):List Nat→Env
 |x::bk=>(match base.get x with|some v=>(x,v)::ekB base bk|none=>ekB base bk)
 |[]=> []
def ekP(l:List Oper)(rs:List AV)(tail:Env):List Nat→Env
 |j::pk=>(match eko l rs j with|some p=>p::ekP l rs tail pk|none=>ekP l rs tail pk)
 |[]=>tail
def il(l:List Oper)(rs:List AV)(base:Env)(pk bk:List Nat):Env:=ekP l rs (ekB base bk) pk
def Ob(P:Program)(e:En)(l:List Oper)(rs:List AV)(base:Env)(sts:Nat→List AO)(k:Nat)(o:Oper)(pk bk:List Nat)(c c':Nat):Prop:=
 ∀F:Env,WL P e l.toArray [o] (il l rs base pk bk++F) (sts c) λenv' st'=>st'=sts c'∧∃pre,env'=pre++(il l rs base pk bk++F)∧
  (∀t x,pre.get t=some x→o.dst=some t)∧∀d r,o.dst=some d→rs[k]? =some r→pre.get d=some r
def ObC(P:Program)(e:En)(l:List Oper)(rs:List AV)(base:Env)(sts:Nat→List AO)(k:Nat)(o:Oper)(pk bk:List Nat)(up:Bool):List Nat→Prop
 |[]=>True
 |c::cs=>Ob P e l rs base sts k o pk bk c (bif up then c+1 else c)∧ObC P e l rs base sts k o pk bk up cs
def Obs(P:Program)(e:En)(l:List Oper)(rs:List AV)(base:Env)(sts:Nat→List AO)(es:List Nat):Nat→List Oper→List (List Nat×List Nat×List Nat)→Prop
 |k,o::ol,p::ps=>ObC P e l rs base sts k o p.1 p.2.1 (es.contains k) p.2.2∧Obs P e l rs base sts es (k+1) ol ps
 |_,_,_=>True
theorem pB{P e l rs base sts k o pk bk up}:∀{cs:List Nat},ObC P e l rs base sts k o pk bk up cs→∀c∈cs,Ob P e l rs base sts k o pk bk c (bif up then c+1 else c)
 |c::cs,h,c',hc=>by
  rcases List.mem_cons.1 hc with rfl|hc
  ·exact h.1
  ·exact pB h.2 c' hc
theorem mr{P e l rs base sts es}:∀{ol:List Oper}{ps:List (List Nat×List Nat×List Nat)}{k j:Nat}{o:Oper}{p:List Nat×List Nat×List Nat},Obs P e l rs base sts es k ol ps→ol[j]? =some o→ps[j]? =some p→ObC P e l rs base sts (k+j) o p.1 p.2.1 (es.contains (k+j)) p.2.2
 |o0::ol,p0::ps,k,0,o,p,h,h1,h2=>by
  simp only[List.getElem?_cons_zero,aq] at h1 h2
  subst h1;subst h2;exact h.1
 |o0::ol,p0::ps,k,j+1,o,p,h,h1,h2=>by
  have:=mr h.2 (by simpa using h1:ol[j]? =some o) (by simpa using h2:ps[j]? =some p)
  rw[show k+(j+1)=k+1+j by omega];exact this
 |[],_,_,_,_,_,_,h1,_=>by simp at h1
 |_::_,[],_,_,_,_,_,_,h2=>by simp at h2
def gS:List Nat→Bool
 |[]=>true
 |x::l=> !(l.contains x)&&gS l
theorem eE:∀{l:List Nat},gS l=true→l.Nodup
 |[],_=>List.nodup_nil
 |x::l,h=>by
  simp only[gS,Bool.and_eq_true,Bool.not_eq_true',List.contains_eq_mem,decide_eq_false_iff_not] at h
  exact List.nodup_cons.2 ⟨h.1,eE h.2⟩
def gI(l:List Oper)(tc:List (List Nat))(es:List Nat)(plan:List (List Nat×List Nat×List Nat)):Bool:=
 sm l tc&&gS (l.filterMap (·.dst))&&gS es&&Nat.beq plan.length l.length&&
 ((List.range es.length).all λi=>match es[i]?,es[i+1]? with|some x,some y=>(tc.getD y []).contains x|_,_=>true)&&
 (List.range l.length).all λk=>match plan[k]? with
  |none=>false
  |some (pk,bk,cs)=>(pk.all λj=>(tc.getD k []).contains j)&&(!(es.contains k)||cs.all λc=>es[c]? ==some k)&&
   (bk.all λx=>(List.range l.length).all λj=>match l[j]? with|some o=> !(o.dst==some x)||Nat.beq j k||(tc.getD j []).contains k|none=>true)&&
   (List.range (es.length+1)).all λc=>cs.contains c||(match es[c]? with|some y=>(tc.getD k []).contains y|none=>false)||
    (es.take c).any λy=>Nat.beq y k||(tc.getD y []).contains k
theorem rB{l:List Oper}{rs:List AV}{j t:Nat}{x:AV}(h:eko l rs j=some (t,x)):(j,t,x)∈bU l rs 0:=by
 unfold eko at h
 split at h
 ·rename_i o r h1 h2
  cases hd:o.dst with
  |none=>simp[hd] at h
  |some d=>
   simp only[hd,Option.map_some,aq,Prod.mk.injEq] at h
   obtain⟨rfl,rfl⟩:=h
   have:=iH (k:=0) h1 hd h2
   simpa using this
 ·cases h
theorem gb{base:Env}{t:Nat}{x:AV}:∀{bk:List Nat},(ekB base bk).get t=some x→t∈bk∧base.get t=some x
 |y::bk,h=>by
  unfold ekB at h
  split at h
  ·rename_i v hv
   rw[aM] at h
   split at h
   ·rename_i htd
    simp only[aq] at h
    subst h;subst htd
    exact⟨List.mem_cons_self,hv⟩
   ·exact⟨List.mem_cons_of_mem _ (gb h).1,(gb h).2⟩
  ·exact⟨List.mem_cons_of_mem _ (gb h).1,(gb h).2⟩
 |[],h=>by simp[ekB,Env.get] at h
theorem mj{l:List Oper}{rs:List AV}{base:Env}{t:Nat}{x:AV}{bk:List Nat}:∀{pk:List Nat},(il l rs base pk bk).get t=some x→(∃j∈pk,(j,t,x)∈bU l rs 0)∨(t∈bk∧base.get t=some x)
 |j::pk,h=>by
  unfold il ekP at h
  split at h
  ·rename_i p hp
   obtain⟨d,r⟩:=p
   rw[aM] at h
   split at h
   ·rename_i htd
    simp only[aq] at h
    subst h;subst htd
    exact .inl ⟨j,List.mem_cons_self,rB hp⟩
   ·rcases mj (pk:=pk) h with⟨j',h1,h2⟩|h1
    ·exact .inl ⟨j',List.mem_cons_of_mem _ h1,h2⟩
    ·exact .inr h1
  ·rcases mj (pk:=pk) h with⟨j',h1,h2⟩|h1
   ·exact .inl ⟨j',List.mem_cons_of_mem _ h1,h2⟩
   ·exact .inr h1
 |[],h=> .inr (gb h)
theorem nI{L:Nat→Bool}:∀{es:List Nat},∀y∈es.take (cnt L es),L y=true
 |[],y,h=>by simp[cnt] at h
 |e::es,y,h=>by
  unfold cnt at h
  cases hL:L e with
  |false=>simp[hL] at h
  |true=>
   rw[hL,cdT,List.take_succ_cons] at h
   rcases List.mem_cons.1 h with rfl|h
   ·exact hL
   ·exact nI y h
theorem nK{L:Nat→Bool}:∀{es:List Nat}{y:Nat},es[cnt L es]? =some y→L y=false
 |[],y,h=>by simp[cnt] at h
 |e::es,y,h=>by
  unfold cnt at h
  cases hL:L e with
  |false=>simp only[hL,cdF,List.getElem?_cons_zero,aq] at h;rw[←h];exact hL
  |true=>simp only[hL,cdT,List.getElem?_cons_succ] at h;exact nK h
theorem rK{L:Nat→Bool}:∀{es:List Nat},cnt L es≤es.length
 |[]=>Nat.le_refl _
 |e::es=>by unfold cnt;cases L e<;>simp[rK]
theorem li{L L':Nat→Bool}{k:Nat}(h:∀j,j≠k→L' j=L j):∀{es:List Nat},k∉es→cnt L' es=cnt L es
 |[],_=>rfl
 |e::es,hk=>by
  have h1:e≠k:=λhe=>hk (by rw[he];exact List.mem_cons_self)
  unfold cnt
  rw[h e h1,li h (λhm=>hk (List.mem_cons_of_mem _ hm))]
theorem nJ{L L':Nat→Bool}{k:Nat}(h:∀j,j≠k→L' j=L j)(hk:L k=false)(hk':L' k=true):∀{es:List Nat},es.Nodup→es[cnt L es]? =some k→(∀y,es[cnt L es+1]? =some y→L y=false)→cnt L' es=cnt L es+1
 |[],_,h1,_=>by simp at h1
 |e::es,hn,h1,h2=>by
  obtain⟨n1,n2⟩:=List.nodup_cons.1 hn
  cases hL:L e with
  |true=>
   have hek:e≠k:=λhe=>by subst he;rw[hk] at hL;cases hL
   have e1:cnt L (e::es)=cnt L es+1:=by simp[cnt,hL]
   rw[e1] at h1 h2⊢
   have:=nJ h hk hk' n2 (by simpa using h1) (λy hy=>h2 y (by simpa using hy))
   simp[cnt,h e hek,hL,this]
  |false=>
   have e1:cnt L (e::es)=0:=by simp[cnt,hL]
   rw[e1] at h1 h2⊢
   simp only[List.getElem?_cons_zero,aq] at h1
   subst h1
   have:cnt L' es=0:=by
    cases es with
    |nil=>rfl
    |cons y es=>
     have hy:=h2 y sM
     have hne:y≠e:=λhe=>n1 (by rw[he];exact List.mem_cons_self)
     simp[cnt,h y hne,hy]
   simp[cnt,hk',this]
theorem pn{es:List Nat}:∀{L:Nat→Bool},(∀y∈es,L y=true)→cnt L es=es.length:=by
 induction es with
 |nil=>intros;rfl
 |cons e es ih=>intro L h;simp[cnt,h e List.mem_cons_self,ih (λy hy=>h y (List.mem_cons_of_mem _ hy))]
theorem iQ:∀{l:List Bool}{i:Nat},l[i]? =some false→(l.set i true).count false+1=l.count false
 |[],i,h=>by simp at h
 |b::l,0,h=>by simp only[List.getElem?_cons_zero,aq] at h;subst h;simp
 |b::l,i+1,h=>by
  have:=iQ (l:=l) (i:=i) (by simpa using h)
  cases b<;>simp<;>omega
section
variable{P:Program}{e:En}{l:List Oper}{rs:List AV}{base:Env}{sts:Nat→List AO}{es:List Nat}
def At(e:En)(l:List Oper)(rs:List AV)(base:Env)(sts:Nat→List AO)(es:List Nat)(L:Nat→Bool)(a:Act)(w:World):Prop:=
 ∃m φ,Inv e m φ (FL base L (bU l rs 0)) (sts (cnt L es)) a w
theorem oe{r:Option Nat}{Q':Exit→Act→World→Prop}{k:Nat}{o:Oper}{env:Env}{st:List AO}{R:Env→List AO→Prop}{m φ a w}{K:Act→World→Prop}(hnd:bl l=true)(ho:l[k]? =some o)(h:WL P e l.toArray [o] env st R)(hi:Inv e m φ env st a w)
  (hK:∀a' w' env' st' m' φ',R env' st'→Inv e m' φ' env' st' a' w'→K a' w'):wpOpIn (EF r) 0 P l.toArray Q' k K a w:=by
 have h1:=h m φ a w hi
 have ho':l.toArray[k]? =some o:=by simpa using ho
 unfold wpOpIn
 simp only[ho']
 unfold cN at h1
 have key:∀(a':Act)(w':World),cN P l.toArray (jT e R) [] a' w'→K a' w':=by
  rintro a' w' ⟨_,env',st',m',φ',hR,hi'⟩
  exact hK a' w' env' st' m' φ' hR hi'
 have hd:=dk hnd ho
 split
 ·rename_i hw
  rw[if_pos hw] at h1
  rcases h1 with h1|h1
  ·refine Oper.wpIn_mono key (fg hd ?_)
   unfold Oper.wp at*
   generalize(execOp a.eval o).run P w=rr at*
   cases rr with
   |ok n w'=>
    cases n<;>simp only[Oper.upon] at h1⊢
    case value v=>exact h1
    case skip=>exact h1
    case defer d=>exact h1
    case enter g args=>
     refine Calls.mono h1 λen w'' he=>?_
     cases en with
     |returned u=>exact he
     |panicked c=>exact absurd he.1 sM
     |outgrown=>obtain⟨_,_,h0⟩:=he;exact absurd h0.1 sM
    case row row args=>exact h1
   |halt x w'=>cases x<;>simp only[Oper.upon] at h1⊢;exact absurd h1.1 sM
  ·exact Oper.wpIn_mono key (fQ hd h1)
 ·rename_i hw
  rw[if_neg hw] at h1
  exact⟨λ_ _=>trivial,key _ _ h1⟩
theorem iG:∀{l:List Oper}{rs:List AV}{k:Nat},(l.filterMap (·.dst)).Nodup→((bU l rs k).map (·.2.1)).Nodup∧∀d∈(bU l rs k).map (·.2.1),d∈l.filterMap (·.dst)
 |[],rs,k,_=>by simp[bU]
 |o::l,[],k,_=>by simp[bU]
 |o::l,r::rs,k,h=>by
  unfold bU
  cases hd:o.dst with
  |none=>
   simp only[List.filterMap_cons,hd] at h⊢
   exact iG h
  |some d=>
   simp only[List.filterMap_cons,hd] at h⊢
   obtain⟨h1,h2⟩:=List.nodup_cons.1 h
   obtain⟨h3,h4⟩:=iG (rs:=rs) (k:=k+1) h2
   refine⟨?_,?_⟩
   ·simp only[List.map_cons]
    exact List.nodup_cons.2 ⟨λhm=>h1 (h4 d hm),h3⟩
   ·intro d' hd'
    simp only[List.map_cons] at hd'
    rcases List.mem_cons.1 hd' with rfl|hd'
    ·exact List.mem_cons_self
    ·exact List.mem_cons_of_mem _ (h4 d' hd')
theorem nP{Q':Exit→Act→World→Prop}(hnf:bl l=true){tc:List (List Nat)}{plan:List (List Nat×List Nat×List Nat)}(hok:gI l tc es plan=true)(hrs:rs.length=l.length)
  {L L':Nat→Bool}{k:Nat}{o:Oper}(hobs:∀p,plan[k]? =some p→ObC P e l rs base sts (0+k) o p.1 p.2.1 (es.contains (0+k)) p.2.2)(ho:l[k]? =some o)(hd:qm l L)(hLn:∀y,L y=true→y<l.length)(hk:L k=false)(hpre:∀e∈o.after,Region.binds .any e=true→L e.on=true)
  (hL:∀j,j≠k→L' j=L j)(hk':L' k=true){a:Act}{w:World}(hat:At e l rs base sts es L a w):
  wpOpIn (EF e.rd) 0 P l.toArray Q' k (λa' w'=>At e l rs base sts es L' a' w') a w:=by
 obtain⟨m,φ,hi⟩:=hat
 simp only[gI,Bool.and_eq_true] at hok
 obtain⟨⟨⟨⟨⟨htc,hnd⟩,hne⟩,hpl⟩,hch⟩,hall⟩:=hok
 have hkl:k<l.length:=(giS.1 ho).1
 have h1:=List.all_eq_true.1 hall k (List.mem_range.2 hkl)
 cases hp:plan[k]? with
 |none=>simp[hp] at h1
 |some p=>
  obtain⟨pk,bk,cs⟩:=p
  simp only[hp,Bool.and_eq_true] at h1
  obtain⟨⟨⟨hpk,hself⟩,hbk⟩,hcs⟩:=h1
  have hobk:=hobs _ hp
  rw[Nat.zero_add] at hobk
  have htck:=iE htc hd k o ho hpre
  have htcl:∀(y:Nat),L y=true→k∉tc.getD y []:=λy hy hm=>by
   have hyl:=hLn y hy
   have hoy:l[y]? =some l[y]:=geG hyl
   have:=iE htc hd y _ hoy (λe' he' hb=>hd y _ hoy hy e' he' hb) k hm
   rw[hk] at this;cases this
  -- the store is one of those that the plan names
  have hc:cnt L es∈cs:=by
   have h2:=List.all_eq_true.1 hcs (cnt L es) (List.mem_range.2 (Nat.lt_succ_of_le rK))
   simp only[Bool.or_eq_true] at h2
   rcases h2 with(h2|h2)|h2
   ·simpa using h2
   ·cases hy:es[cnt L es]? with
    |none=>simp[hy] at h2
    |some y=>
     simp only[hy] at h2
     have:=htck y (by simpa using h2)
     rw[nK hy] at this;cases this
   ·obtain⟨y,hy,h3⟩:=List.any_eq_true.1 h2
    have hLy:=nI y hy
    simp only[Bool.or_eq_true] at h3
    rcases h3 with h3|h3
    ·rw[nbE h3,hk] at hLy;cases hLy
    ·exact absurd (by simpa using h3) (htcl y hLy)
  have hob:=pB hobk _ hc
  have hcnt:cnt L' es=bif es.contains k then cnt L es+1 else cnt L es:=by
   cases hmem:es.contains k with
   |false=>exact li hL (by simpa using hmem)
   |true=>
    rw[hmem] at hself
    simp only[Bool.not_true,Bool.false_or] at hself
    have h4:=List.all_eq_true.1 hself _ hc
    have h5:es[cnt L es]? =some k:=by simpa using h4
    refine nJ hL hk hk' (eE hne) h5 (λy hy=>?_)
    have hlt:cnt L es<es.length:=(giS.1 h5).1
    have h6:=List.all_eq_true.1 hch (cnt L es) (List.mem_range.2 hlt)
    simp only[h5,hy] at h6
    cases hLy:L y with
    |false=>rfl
    |true=>exact absurd (by simpa using h6) (htcl y hLy)
  have hreg:=iG (rs:=rs) (k:=0) (eE hnd)
  have regk:∀(j t:Nat)(x:AV),(j,t,x)∈bU l rs 0→∃o',l[j]? =some o'∧o'.dst=some t∧rs[j]? =some x:=λj t x hm=>by
   obtain⟨_,o',h1,h2,h3⟩:=kZ hm
   exact⟨o',by simpa using h1,h2,by simpa using h3⟩
  -- what the operation needs is there
  have hek:∀t x,(il l rs base pk bk).get t=some x→(FL base L (bU l rs 0)).get t=some x:=λt x hx=>by
   rcases mj hx with⟨j,hj,hm⟩|⟨hm,hb⟩
   ·exact oR hreg.1 hm (htck j (by simpa using List.all_eq_true.1 hpk j hj))
   ·rw[pE]
    ·exact hb
    ·intro j r hjm
     obtain⟨o',h2,h3,_⟩:=regk j t r hjm
     have h4:=List.all_eq_true.1 (List.all_eq_true.1 hbk t hm) j (List.mem_range.2 (giS.1 h2).1)
     simp only[h2,h3,beq_self_eq_true,Bool.not_true,Bool.false_or,Bool.or_eq_true] at h4
     rcases h4 with h4|h4
     ·rw[nbE h4];exact hk
     ·cases hLj:L j with
      |false=>rfl
      |true=>exact absurd (by simpa using h4) (htcl j hLj)
  have hsub:Sub (il l rs base pk bk++FL base L (bU l rs 0)) (FL base L (bU l rs 0)):=λt x hx=>by
   rw[Env.get_append] at hx
   cases hg:(il l rs base pk bk).get t with
   |some y=>rw[hg] at hx;simp only[aq] at hx;subst hx;exact⟨y,hek t y hg,Le.refl y⟩
   |none=>rw[hg] at hx;exact⟨x,hx,Le.refl x⟩
  refine oe hnf ho (hob (FL base L (bU l rs 0))) (hi.sub hsub) ?_
  rintro a' w' env' st' m' φ' ⟨rfl,pre,rfl,hp1,hp2⟩ hi'
  refine⟨m',φ',?_⟩
  rw[hcnt]
  refine hi'.sub (λt x hx=>?_)
  rw[Env.get_append,Env.get_append]
  cases hpt:pre.get t with
  |some y=>
   have hdt:=hp1 t y hpt
   cases hrk:rs[k]? with
   |none=>exact absurd (List.getElem?_eq_none_iff.1 hrk) oM
   |some r=>
    have h2:=hp2 t r hdt hrk
    rw[hpt] at h2
    simp only[aq] at h2
    subst h2
    have h3:(FL base L' (bU l rs 0)).get t=some y:=oR hreg.1 (by simpa using iH (k:=0) ho hdt hrk) hk'
    rw[h3] at hx
    simp only[aq] at hx
    subst hx
    exact⟨y,rfl,Le.refl y⟩
  |none=>
   have h3:(FL base L' (bU l rs 0)).get t=(FL base L (bU l rs 0)).get t:=pD hL (λr hr=>by
    obtain⟨o',h2,h3,h4⟩:=regk k t r hr
    rw[ho] at h2
    simp only[aq] at h2
    subst h2
    have:=hp2 t r h3 h4
    rw[hpt] at this;cases this)
   rw[h3] at hx
   cases hg:(il l rs base pk bk).get t with
   |some y=>
    have:=hek t y hg
    rw[hx] at this
    simp only[aq] at this
    subst this
    exact⟨x,rfl,Le.refl x⟩
   |none=>exact⟨x,hx,Le.refl x⟩
def Lof(listed:Array Bool)(k:Nat):Bool:=listed.getD k false
theorem sY(hnf:bl l=true){tc:List (List Nat)}{plan:List (List Nat×List Nat×List Nat)}{Q:Exit→Act→World→Prop}(hok:gI l tc es plan=true)(hrs:rs.length=l.length)(hobs:Obs P e l rs base sts es 0 l plan)
  (hQ:∀a w,At e l rs base sts es (λk=>Nat.blt k l.length) a w→Q .normal a w):
  ∀(f:Nat)(listed:Array Bool)(a:Act)(w:World),listed.size=l.length→qm l (Lof listed)→listed.toList.count false≤f→At e l rs base sts es (Lof listed) a w→wpAnyIn (EF e.rd) 0 P .any l.toArray Q f listed a w:=by
 have htc:sm l tc=true:=by simp only[gI,Bool.and_eq_true] at hok;exact hok.1.1.1.1.1
 -- what is ready
 have rdy:∀(listed:Array Bool)(i:Nat),listed.size=l.length→i∈Region.ready .any l.toArray listed→∃o,l[i]? =some o∧Lof listed i=false∧listed[i]? =some false∧∀e∈o.after,Region.binds .any e=true→Lof listed e.on=true:=by
  intro listed i hsz hi
  obtain⟨h0,o,ho,hall⟩:=mem_ready.1 hi
  have hil:i<listed.size:=by
   rcases Nat.lt_or_ge i listed.size with h|h
   ·exact h
   ·simp[Array.getD,Nat.not_lt.2 h] at h0
  have h1:listed[i]? =some false:=by
   rw[Array.getElem?_eq_getElem hil]
   simp[Array.getD,hil] at h0
   rw[h0]
  exact⟨o,by simpa using ho,by simp[Lof,Array.getD_eq_getD_getElem?,h1],h1,λe he hb=>hall e he hb⟩
 -- where nothing is ready, all is listed
 have full:∀(listed:Array Bool),listed.size=l.length→Region.ready .any l.toArray listed=[]→Lof listed=λk=>Nat.blt k l.length:=by
  intro listed hsz hr
  have key:∀k,k<l.length→Lof listed k=true:=by
   intro k
   induction k using Nat.strongRecOn with
   |_ k ih=>
    intro hk
    cases hLk:Lof listed k with
    |true=>rfl
    |false=>
     exfalso
     have hok':l[k]? =some l[k]:=geG hk
     have:k∈Region.ready .any l.toArray listed:=by
      refine mem_ready.2 ⟨?_,l[k],by simp[hk],λe he hb=>?_⟩
      ·have hks:k<listed.size:=oM
       simp only[Lof,Array.getD,hks,dif_pos] at hLk⊢
       exact hLk
      ·have h1:=List.all_eq_true.1 htc k (List.mem_range.2 hk)
       simp only[hok',Bool.and_eq_true] at h1
       have h2:=List.all_eq_true.1 h1.1 e (Array.mem_toList_iff.2 he)
       simp only[hb,Bool.not_true,Bool.false_or] at h2
       have hlt:e.on<k:=by simpa[Nat.blt_eq] using h2
       exact ih e.on hlt oM
     rw[hr] at this;cases this
  funext k
  rcases Nat.lt_or_ge k l.length with h|h
  ·rw[key k h];simp[Nat.blt_eq,h]
  ·have:Lof listed k=false:=by simp[Lof,Array.getD,Nat.not_lt.2 (by omega:listed.size≤k)]
   rw[this]
   cases hb:Nat.blt k l.length with
   |false=>rfl
   |true=>
     have:k<l.length:=by simpa[Nat.blt_eq] using hb
     omega
 intro f
 induction f with
 |zero=>
  intro listed a w hsz hdn hcn hat
  have hr:Region.ready .any l.toArray listed=[]:=by
   cases hr:Region.ready .any l.toArray listed with
   |nil=>rfl
   |cons i r=>
    obtain⟨o,_,_,h1,_⟩:=rdy listed i hsz (by rw[hr];exact List.mem_cons_self)
    have:false∈listed.toList:=List.mem_of_getElem? (i:=i) (by simpa using h1)
    have:=List.count_pos_iff.2 this
    omega
  exact⟨hr,hQ a w (full listed hsz hr▸hat)⟩
 |succ f ih=>
  intro listed a w hsz hdn hcn hat
  refine⟨λhr=>hQ a w (full listed hsz hr▸hat),λi hi=>?_⟩
  obtain⟨o,ho,hLi,hli,hpre⟩:=rdy listed i hsz hi
  have hil:i<listed.size:=(Array.getElem?_eq_some_iff.1 hli).1
  have hother:∀j,j≠i→Lof (listed.setIfInBounds i true) j=Lof listed j:=λj hj=>by
   simp only[Lof,Array.getD_eq_getD_getElem?,Array.getElem?_setIfInBounds_ne (Ne.symm hj)]
  have hself:Lof (listed.setIfInBounds i true) i=true:=by simp[Lof,Array.getD_eq_getD_getElem?,hil]
  have hstep:=nP (Q':=Q) hnf (L':=Lof (listed.setIfInBounds i true)) hok hrs (λp hp=>mr hobs ho hp) ho hdn (λy hy=>by
   rcases Nat.lt_or_ge y l.length with h|h
   ·exact h
   ·simp[Lof,Array.getD,Nat.not_lt.2 (by omega:listed.size≤y)] at hy) hLi hpre hother hself hat
  refine wpOpIn_mono (λa' w' hat'=>ih _ a' w' (by simpa using hsz) ?_ ?_ hat') hstep
  ·intro k ok hk hLk e he hb
   by_cases hki:k=i
   ·subst hki
    rw[ho] at hk
    simp only[aq] at hk
    subst hk
    have:=hpre e he hb
    by_cases hei:e.on=k
    ·rw[hei];exact hself
    ·rw[hother _ hei];exact this
   ·rw[hother k hki] at hLk
    have:=hdn k ok hk hLk e he hb
    by_cases hei:e.on=i
    ·rw[hei];exact hself
    ·rw[hother _ hei];exact this
  ·have:=iQ (l:=listed.toList) (i:=i) (by simpa using hli)
   rw[Array.toList_setIfInBounds]
   omega
theorem kB{k:Ko}{env:Env}{st:List AO}{id:Nat}(rs:List AV)(tc:List (List Nat))(es:List Nat)(sts:Nat→List AO)(plan:List (List Nat×List Nat×List Nat))(hm:P.follows .mixedOrders=true)
  (hok:gI l tc es plan=true)(hrs:Nat.beq rs.length l.length=true)(hes:es.all (λy=>Nat.blt y l.length)=true)(hst:sts 0=st)(hobs:Obs P e l rs env sts es 0 l plan)
  (h:WE P e .normal k (FL env (λk=>Nat.blt k l.length) (bU l rs 0)) (sts es.length))(hnf:bl l=true:=by kernel_rfl):WC P e (.region id l.toArray true) k env st:=λm φ a w hi=>by
 have hQ:∀a' w',At e l rs env sts es (λk=>Nat.blt k l.length) a' w'→k.den P e .normal a' w':=λa' w' ⟨m',φ',hi'⟩=>by
  rw[pn λy hy=>List.all_eq_true.1 hes y hy] at hi'
  exact h m' φ' a' w' hi'
 have hz:∀j,Lof (Array.replicate l.toArray.size false) j=false:=λj=>by simp[Lof,Array.getD]
 have hdn:qm l (Lof (Array.replicate l.toArray.size false)):=λk o _ hL=>by rw[hz] at hL;cases hL
 have hat:At e l rs env sts es (Lof (Array.replicate l.toArray.size false)) a { w with drawn:=w.drawn+1 }:=by
  have hc:cnt (Lof (Array.replicate l.toArray.size false)) es=0:=by
   cases es with
   |nil=>rfl
   |cons y es=>simp only[cnt,hz,cdF]
  have hf:∀reg:List (Nat×Nat×AV),FL env (Lof (Array.replicate l.toArray.size false)) reg=env:=by
   intro reg
   induction reg with
   |nil=>rfl
   |cons p reg ih=>obtain⟨j,d,r⟩:=p;simp only[FL,hz,cdF];exact ih
  refine⟨m,φ,?_⟩
  rw[hc,hf,hst]
  exact hi.below ((Below.refl _ _).drew) (hi.env.mono (Pre.refl m) (Fz.refl φ w)) hi.sz rfl
 exact wpIn_region_any hm (sY hnf (sts:=sts) (base:=env) hok (nbE hrs) hobs hQ _ _ a _ sM hdn sM hat)
theorem kq{ops:Array Oper}{env:Env}{st' stc:List AO}{o:Oper}{d:Nat}{r:AV}{k:Nat}(hd:o.dst=some d)(hr:rs[k]? =some r)(hst:st'=stc):
  WL P e ops [] ((d,r)::env) st' (λenv' st''=>st''=stc∧∃pre,env'=pre++env∧(∀t x,pre.get t=some x→o.dst=some t)∧∀d' r',o.dst=some d'→rs[k]? =some r'→pre.get d'=some r'):=
 WL.nil ⟨hst,[(d,r)],rfl,λt x hx=>by
  rw[aM] at hx
  split at hx
  ·rename_i h;rw[h];exact hd
  ·simp[Env.get] at hx,λd' r' hd' hr'=>by
  rw[hd] at hd';rw[hr] at hr'
  simp only[aq] at hd' hr'
  subst hd';subst hr'
  simp[aM]⟩
theorem rP{ops:Array Oper}{env:Env}{st' stc:List AO}{o:Oper}{d:Nat}{r r0:AV}{k:Nat}(hd:o.dst=some d)(hr:rs[k]? =some r)(hst:st'=stc):
  WL P e ops [] ((d,r)::(d,r0)::env) st' (λenv' st''=>st''=stc∧∃pre,env'=pre++env∧(∀t x,pre.get t=some x→o.dst=some t)∧∀d' r',o.dst=some d'→rs[k]? =some r'→pre.get d'=some r'):=
 WL.nil ⟨hst,[(d,r),(d,r0)],rfl,λt x hx=>by
  rw[aM,aM] at hx
  by_cases h:t=d
  ·rw[h];exact hd
  ·simp[h,Env.get] at hx,λd' r' hd' hr'=>by
  rw[hd] at hd';rw[hr] at hr'
  simp only[aq] at hd' hr'
  subst hd';subst hr'
  simp[aM]⟩
theorem aY{ops:Array Oper}{env:Env}{st' stc:List AO}{o:Oper}{k:Nat}(hd:o.dst=none)(hst:st'=stc):
  WL P e ops [] env st' (λenv' st''=>st''=stc∧∃pre,env'=pre++env∧(∀t x,pre.get t=some x→o.dst=some t)∧∀d' r',o.dst=some d'→rs[k]? =some r'→pre.get d'=some r'):=
 WL.nil ⟨hst,[],rfl,λt x hx=>by simp[Env.get] at hx,λd' r' hd' _=>by rw[hd] at hd';cases hd'⟩
end
end Go.Sk
namespace Go.Sk
open Go.RowKit (Below)
section
variable{P:Program}{e:En}{ops:Array Oper}{l rest:List Oper}{env:Env}{st:List AO}{R:Env→List AO→Prop}{K:Ko}
theorem nY{m φ w}:∀{xs:List AV}{vs:List Value}{i:Nat}{y:AV}{v:Value},RAs m φ w xs vs→vs[i]? =some v→RA m φ w y v→RAs m φ w (xs.set i y) vs
 |[],vs,i,y,v,h,hi,hy=>by simp only[RAs] at h;subst h;simp at hi
 |p::xs,vs,i,y,v,h,hi,hy=>by
  simp only[RAs] at h
  obtain⟨c,cs,rfl,h1,h2⟩:=h
  cases i with
  |zero=>
   simp only[List.getElem?_cons_zero,aq] at hi
   subst hi
   exact aK hy h2
  |succ i=>exact aK h1 (nY h2 (by simpa using hi) hy)
theorem WC.nil_cell{c:Code}(id off T k:Nat){T':TypeId}{cs:List AV}(hs:st[id]? =some (.row T' cs))(hc:cs[off]? =some (.d (.v (.slice none 0 0))))(h:WC P e c K env ((st++ [AO.os T k 0 []]).set id (.row T' (cs.set off (.os st.length 0))))):WC P e c K env st:=λ_m φ a w hi=>
 let ⟨m',hi'⟩:=hi.nil_cell (T:=T) (k:=k) hs hc
 h m' φ a w hi'
end
end Go.Sk
namespace Go.Sk
open Go.RowKit (Below)
def iw(env:Env)(id ver:Nat):List Nat→Prop
 |[]=>True
 |t::ts=>env.get t=some (.os id ver)∧iw env id ver ts
def ej(x:AV):List (Nat×Nat)→List AO→List AO
 |[],st=>st
 |(i,off)::r,st=>ej x r (match st[i]? with|some (.row T cs)=>st.set i (.row T (cs.set off x))|_=>st)
def gw(st:List AO)(id ver:Nat)(x:AV):List (Nat×Nat)→Prop
 |[]=>True
 |(i,off)::r=>∃T cs,st[i]? =some (.row T cs)∧cs[off]? =some (.os id ver)∧gw (st.set i (.row T (cs.set off x))) id ver x r
theorem jQ{m φ w}{id ver:Nat}{y:Value}{x:AV}(hm:m[id]? =some (.tok ver y))(hx:RA m φ w x y):∀(l:List (Nat×Nat))(st:List AO),SR m φ st w→gw st id ver x l→SR m φ (ej x l st) w
 |[],st,h,_=>h
 |(i,off)::r,st,h,hc=>by
  obtain⟨T,cs,h1,h2,h3⟩:=hc
  simp only[ej,h1]
  refine jQ hm hx r _ ?_ h3
  refine h.alter (o:= .row T cs) h1 rfl ?_
  rintro c hc2 ⟨b,rfl,q2,vs,q3,q4⟩
  obtain⟨v',p1,p2⟩:=ce q4 h2
  simp only[RA] at p2
  obtain⟨v0,y0,k1,k2,k3⟩:=p2
  rw[hm] at k1
  simp only[aq,Cz.tok.injEq] at k1
  obtain⟨rfl,rfl⟩:=k1
  have:=k3 rfl
  subst this
  exact⟨b,rfl,q2,vs,q3,nY q4 p1 hx⟩
section
variable{P:Program}{e:En}{ops:Array Oper}{l rest:List Oper}{env:Env}{st:List AO}{R:Env→List AO→Prop}{K:Ko}
theorem Inv.freezeX{m φ a w}{id ver T k:Nat}{ds:List (List D)}(ts:List Nat)(cl:List (Nat×Nat))(hi:Inv e m φ env st a w)(hs:st[id]? =some (.os T k ver (ds.map λe=>e.map AV.d)))
  (ht:iw env id ver ts)(hc:gw (st.set id .dead) id ver (.d (.sl ds)) cl):
  ∃φ',Inv e m φ' (ts.map (λt=>(t, .d (.sl ds)))++env) (ej (.d (.sl ds)) cl (st.set id .dead)) a w:=by
 obtain⟨c,hcm⟩:∃c,m[id]? =some c:=by
  have:id<m.length:=by rw[hi.sr.len];exact(giS.1 hs).1
  exact⟨_,geG this⟩
 obtain⟨y,xs,rfl,_⟩:=hi.sr.obj id _ _ hs hcm
 obtain⟨φ',f1,f2,f3⟩:=lc hi.sr hs hcm
 have h3:=hi.go f1 f2
 refine⟨φ',jQ hcm (by simpa[RA] using f3) cl _ h3.sr hc,h3.ev,?_,h3.sz,h3.df⟩
 clear hc
 refine⟨?_,h3.env.gl⟩
 induction ts with
 |nil=>exact h3.env.get
 |cons t ts ih=>
  intro s x hx
  simp only[List.map_cons,List.cons_append] at hx
  unfold Env.get at hx
  cases hb:Nat.beq s t with
  |true=>
   rw[hb] at hx
   simp only[cdT,aq] at hx
   subst hx
   have:s=t:=nbE hb
   subst this
   obtain⟨v,g1,g2⟩:=hi.env s _ ht.1
   simp only[RA] at g2
   obtain⟨v0,y0,k1,k2,k3⟩:=g2
   rw[hcm] at k1
   simp only[aq,Cz.tok.injEq] at k1
   obtain⟨rfl,rfl⟩:=k1
   have:=k3 rfl
   subst this
   exact⟨_,g1,by simpa[RA] using f3⟩
  |false=>rw[hb] at hx;exact ih ht.2 s x hx
theorem WC.freezeX{c:Code}(ts:List Nat)(cl:List (Nat×Nat))(id:Nat){ver T k:Nat}(ds:List (List D)){es:List (List AV)}(hs:st[id]? =some (.os T k ver es))(hes:es=ds.map λe=>e.map AV.d)(ht:iw env id ver ts)(hc:gw (st.set id .dead) id ver (.d (.sl ds)) cl)
  (h:WC P e c K (ts.map (λt=>(t, .d (.sl ds)))++env) (ej (.d (.sl ds)) cl (st.set id .dead))):WC P e c K env st:=λm φ a w hi=>by
 subst hes
 obtain⟨φ',hi'⟩:=hi.freezeX ts cl hs ht hc
 exact h m φ' a w hi'
theorem WL.freezeX(ts:List Nat)(cl:List (Nat×Nat))(id:Nat){ver T k:Nat}(ds:List (List D)){es:List (List AV)}(hs:st[id]? =some (.os T k ver es))(hes:es=ds.map λe=>e.map AV.d)(ht:iw env id ver ts)(hc:gw (st.set id .dead) id ver (.d (.sl ds)) cl)
  (h:WL P e ops l (ts.map (λt=>(t, .d (.sl ds)))++env) (ej (.d (.sl ds)) cl (st.set id .dead)) R):WL P e ops l env st R:=λm φ a w hi=>by
 subst hes
 obtain⟨φ',hi'⟩:=hi.freezeX ts cl hs ht hc
 exact h m φ' a w hi'
theorem WE.freezeX{x:Exit}(ts:List Nat)(cl:List (Nat×Nat))(id:Nat){ver T k:Nat}(ds:List (List D)){es:List (List AV)}(hs:st[id]? =some (.os T k ver es))(hes:es=ds.map λe=>e.map AV.d)(ht:iw env id ver ts)(hc:gw (st.set id .dead) id ver (.d (.sl ds)) cl)
  (h:WE P e x K (ts.map (λt=>(t, .d (.sl ds)))++env) (ej (.d (.sl ds)) cl (st.set id .dead))):WE P e x K env st:=λm φ a w hi=>by
 subst hes
 obtain⟨φ',hi'⟩:=hi.freezeX ts cl hs ht hc
 exact h m φ' a w hi'
end
def nn(b:Nat)(n:Int):Bool:=decide (0≤n)&&decide ((b:Int)*n≤281474976710656)&&decide (n≤maxLen)
section
variable{P:Program}{env:Env}{st:List AO}{dst:Option Tmp}{ty:TypeId}{pos:String}{after:Array Edge}{guard:Option (Nat×Bool)}
theorem fU(z:Array Value):∀n:Nat,0<z.size→(madeCells z (n*z.size)).toList=(List.replicate n z.toList).flatten
 |0,_=>by simp[madeCells]
 |n+1,hz=>by
  apply List.ext_getElem?
  intro j
  have ih:=congrArg (λl=>l[j - z.size]?) (fU z n hz)
  simp only[madeCells,Array.toList_map,Array.toList_range,List.getElem?_map] at ih⊢
  rw[List.replicate_succ,List.flatten_cons]
  by_cases hj:j<z.size
  ·rw[List.getElem?_append_left (by simpa using hj),List.getElem?_range (by rw[Nat.succ_mul];omega)]
   simp[hj,Nat.mod_eq_of_lt hj]
  ·rw[List.getElem?_append_right (by simpa using Nat.le_of_not_lt hj)]
   simp only[Array.length_toList]
   rw[←ih]
   by_cases hj2:j<(n+1)*z.size
   ·rw[List.getElem?_range hj2,List.getElem?_range (by rw[Nat.succ_mul] at hj2;omega)]
    simp only[Option.map_some]
    rw[Nat.mod_eq_sub_mod (Nat.le_of_not_lt hj)]
   ·rw[List.getElem?_eq_none (by simpa using Nat.le_of_not_lt hj2),List.getElem?_eq_none (by simp only[List.length_range];rw[Nat.succ_mul] at hj2;omega)]
theorem eF{T e k by_:Nat}{kl kc:IntKind}{n:Int}{x y:Operand}{zs:List Value}(hT:cS P T=some (e,k,by_))(hz:aG P e=some zs)(hzl:zs.length=k)(hk:0<k)
  (hx:opv env x=some (.d (.v (.int kl n))))(hy:opv env y=some (.d (.v (.int kc n))))(hok:nn by_ n=true):
  NewOs P env st ⟨dst, .makeSlice T x y,ty,pos,after,guard⟩ e k (List.replicate n.toNat (zs.map λz=> .d (.v z))):=λm φ a w hs he=>by
 obtain⟨i,ht,hi,rfl,rfl⟩:=dg hT
 obtain⟨z,hz1,hz2⟩:=eB hz hi
 simp only[nn,Bool.and_eq_true,decide_eq_true_eq] at hok
 obtain⟨⟨k0,k1⟩,k2⟩:=hok
 have hr:=run_make (P:=P) w T e i z ht hi hz1 kl kc n n k0 (Int.le_refl _) k1 (by simp only[maxLen] at k2;omega)
 have hzs:z.cells.size=i.size:=by rw[hz2];simpa using hzl
 have hfl:(madeCells z.cells (n.toNat*i.size)).toList=(List.replicate n.toNat zs).flatten:=by
  have:=fU z.cells n.toNat oM
  rw[hzs] at this
  rw[this,hz2]
 have hF:=Fz.alloc hs (.cells (madeCells z.cells (n.toNat*i.size)) e)
 have hkk:∀b,b<w.heap.size→(w.alloc (.cells (madeCells z.cells (n.toNat*i.size)) e)).heap[b]? =w.heap[b]? :=λb hb=>bt hb
 have hnew:∀b,(Cz.tok 0 (.slice (some ⟨w.heap.size,0,none⟩) n.toNat n.toNat)).has b→w.heap.size≤b:=λb hb=>by simp only[Cz.has,Value.ownBlock,aq] at hb;omega
 refine⟨_,_,by simp only[execOp,aN he hx,aN he hy];rw[Sem.run_bind,hr];rfl,Ev.push hs hF hkk sM rfl rfl rfl hnew,SR.push hs hF hkk sM ?_ hnew,(Below.refl _ _).alloc (Nat.le_refl _) _,λb hb=>by simp only[Value.ownBlock,aq] at hb;omega⟩
 have hl2:(List.replicate n.toNat zs).flatten.length=n.toNat*i.size:=by rw[←hfl];simp[size_madeCells]
 have hras:∀j:Nat,RAs (m++ [Cz.tok 0 (.slice (some ⟨w.heap.size,0,none⟩) n.toNat n.toNat)]) φ (w.alloc (.cells (madeCells z.cells (n.toNat*i.size)) e)) (List.replicate j (zs.map λz=>AV.d (.v z))).flatten (List.replicate j zs).flatten:=by
  intro j
  induction j with
  |zero=>exact bZ
  |succ j ih=>rw[List.replicate_succ,List.replicate_succ,List.flatten_cons,List.flatten_cons];exact aD (dJ zs) ih
 refine⟨_,(List.replicate n.toNat zs).flatten,rfl,⟨by rw[hl2];simp, .inr ⟨w.heap.size,n.toNat,_,sM,Nat.zero_le _,heap_alloc_new w _,sM,oM,size_madeCells _ _,?_⟩⟩,hras _,λf hf=>?_,λb hb=>?_⟩
 ·rw[hfl,List.take_of_length_le (by rw[hl2];simp)]
 ·rw[(List.mem_replicate.1 hf).2];simpa using hzl
 ·simp only[Value.ownBlock,aq] at hb
  exact hs.lt b oM
theorem NewOs.cast{o:Oper}{T k:Nat}{es es':List (List AV)}(h:NewOs P env st o T k es)(he:es=es'):NewOs P env st o T k es':=he▸h
def ELes:List (List AV)→List (List AV)→Prop
 |[],[]=>True
 |x::xs,y::ys=>Les x y∧ELes xs ys
 |_,_=>False
theorem ELes.len:∀{xs ys:List (List AV)},ELes xs ys→xs.length=ys.length
 |[],[],_=>rfl
 |x::xs,y::ys,h=>by simp[ELes.len h.2]
 |[],_::_,h=>h.elim
 |_::_,[],h=>h.elim
theorem Les.len:∀{xs ys:List AV},Les xs ys→xs.length=ys.length
 |[],[],_=>rfl
 |x::xs,y::ys,h=>by simp[Les.len h.2]
 |[],_::_,h=>h.elim
 |_::_,[],h=>h.elim
theorem Les.append:∀{xs ys us vs:List AV},Les xs ys→Les us vs→Les (xs++us) (ys++vs)
 |[],[],_,_,_,k=>k
 |_x::_xs,_y::_ys,_,_,h,k=>⟨h.1,Les.append h.2 k⟩
 |[],_::_,_,_,h,_=>h.elim
 |_::_,[],_,_,h,_=>h.elim
theorem ELes.flat:∀{xs ys:List (List AV)},ELes xs ys→Les xs.flatten ys.flatten
 |[],[],_=>trivial
 |_x::_xs,_y::_ys,h=>Les.append h.1 (ELes.flat h.2)
 |[],_::_,h=>h.elim
 |_::_,[],h=>h.elim
theorem ELes.lens{k:Nat}:∀{xs ys:List (List AV)},ELes xs ys→(∀e∈xs,e.length=k)→∀e∈ys,e.length=k
 |[],[],_,_=>λe he=>by simp at he
 |x::xs,y::ys,h,hk=>λe he=>by
  rcases List.mem_cons.1 he with rfl|he
  ·rw[←Les.len h.1];exact hk x sM
  ·exact ELes.lens h.2 (λe he=>hk e (by simp[he])) e he
 |[],_::_,h,_=>h.elim
 |_::_,[],h,_=>h.elim
theorem NewOs.weak{o:Oper}{T k:Nat}{es es':List (List AV)}(h:NewOs P env st o T k es)(he:ELes es es'):NewOs P env st o T k es':=λm φ a w hs hE=>by
 obtain⟨v,w',h1,h2,h3,h4⟩:=h m φ a w hs hE
 refine⟨v,w',h1,h2,?_,h4⟩
 have:=h3.alter (id:=st.length) (o:= .os T k 0 es) (o':= .os T k 0 es') sM rfl (λc _=>?_)
 ·simpa using this
 ·rintro⟨y,xs,r1,r2,r3,r4,r5⟩
  exact⟨y,xs,r1,by rw[←he.len];exact r2,(Les.ras he.flat) r3,he.lens r4,r5⟩
theorem ia{α:Type}{R:α→List D}{z:α}{zs:List AV}(h:Les zs (aF R z)):∀n:Nat,ELes (List.replicate n zs) ((List.replicate n z).map (aF R))
 |0=>trivial
 |n+1=>⟨h,ia h n⟩
theorem fO{α:Type}{R:α→List D}{n:Nat}{z:α}{zs:List Value}(h:aF R z=zs.map λz=> .d (.v z)):List.replicate n (zs.map λz=>AV.d (.v z))=(List.replicate n z).map (aF R):=by
 rw[List.map_replicate,h]
end
end Go.Sk
namespace Go.Sk
open Go.RowKit (Below)
theorem qR{m φ st w}{id:Nat}{T k ver b len cap:Nat}{es es':List (List AV)}{vs:List Value}(hs:SR m φ st w)(hi:st[id]? =some (.os T k ver es))(hb:m[id]? =some (.tok ver (.slice (some ⟨b,0,none⟩) len cap)))
  (h:RAs m φ w es'.flatten vs)(hl:es'.length=es.length)(hk:∀e∈es',e.length=k)(cur:Array Value)(hcur:w.heap[b]? =some (.cells cur T (0,0)))(new:Array Value)(hsz:new.size=cur.size)(htk:new.toList.take (es.length*k)=vs):
  Ev m φ w m φ (w.setRow b new)∧SR m φ (st.set id (.os T k ver es')) (w.setRow b new):=by
 obtain⟨y,xs,e1,g1,g2,g3,g4⟩:=hs.obj id _ _ hi hb
 simp only[Cz.tok.injEq,true_and] at e1
 subst e1
 have h0:φ b=0:=g4 b rfl
 have hF:Fz φ w φ (w.setRow b new):=λb2 off c q1 q2=>⟨q1,by
  have hne:b2≠b:=λe=>by subst e;omega
  rw[aP (br hne)];exact q2⟩
 have hsize:(w.setRow b new).heap.size=w.heap.size:=size_setRow w b _
 refine⟨⟨Pre.refl m,λ_ h=> .inl h,rfl,rfl,rfl,by rw[hsize];exact Nat.le_refl _,λb2 hb2 hn=>⟨br (λe=>hn ⟨id,_,hb,by rw[e];rfl⟩),rfl⟩,hF⟩,⟨by simp[hs.len],λi o c q1 q2=>?_,λb2 hb2=>hs.lt b2 oM,λi j o o' c c' b2 q1 q2 l1 l2 k1 k2 e1 e2=>?_,hs.gl.mono hF,λb2 hb2=>by rw[hsize];exact hs.nb b2 hb2⟩⟩
 ·by_cases hii:i=id
  ·subst hii
   rw[List.getElem?_set_self (du hi)] at q1
   rw[hb] at q2
   simp only[aq] at q1 q2
   subst q1;subst q2
   refine⟨_,vs,rfl,?_,RAs.mono (Pre.refl m) hF _ _ h,hk,g4⟩
   obtain⟨r1,r2⟩:=g1
   have hvl:vs.length=es.length*k:=by
    have:=aC h
    rw[this]
    clear this h htk
    have:∀l:List (List AV),(∀e∈l,e.length=k)→l.flatten.length=l.length*k:=by
     intro l
     induction l with
     |nil=>simp
     |cons x l ih=>intro hh;simp only[List.flatten_cons,List.length_append,List.length_cons,ih (λe he=>hh e (by simp[he])),hh x sM,Nat.succ_mul];omega
    rw[this es' hk,hl]
   rcases r2 with⟨hv,_⟩|⟨g,cap',cur',hv,p1,p2,p3,p4,p5,p6⟩
   ·cases hv
   ·simp only[Value.slice.injEq,aq,Addr.mk.injEq,and_true] at hv
    obtain⟨rfl,rfl,rfl⟩:=hv
    rw[hcur] at p2
    simp only[aq,Obj.cells.injEq,and_true] at p2
    subst p2
    rw[hl]
    exact⟨hvl, .inr ⟨b,cap,new,rfl,p1,setRow_heap w b _ _ T (0,0) hcur,p3,p4,by rw[hsz];exact p5,htk⟩⟩
  ·rw[List.getElem?_set_ne (Ne.symm hii)] at q1
   have h:=hs.obj i o c q1 q2
   cases hl:o.live with
   |true=>
    refine h.congr (Pre.refl m) hF (λb2 hb2=>⟨br λe=>?_,rfl⟩)
    subst e
    exact hii (hs.inj i id o _ c _ b2 q1 hi hl rfl q2 hb hb2 rfl)
   |false=>cases o<;>first|trivial|exact h|(simp[AO.live] at hl;done)
 ·have back:∀(i:Nat)(o:AO),(st.set id (.os T k ver es'))[i]? =some o→o.live=true→∃o2,st[i]? =some o2∧o2.live=true:=by
   intro i o g l
   by_cases hii:i=id
   ·subst hii;exact⟨_,hi,rfl⟩
   ·rw[List.getElem?_set_ne (Ne.symm hii)] at g;exact⟨o,g,l⟩
  obtain⟨p,p1,p2⟩:=back i o q1 l1
  obtain⟨q,u1,u2⟩:=back j o' q2 l2
  exact hs.inj i j p q c c' b2 p1 u1 p2 u2 k1 k2 e1 e2
section
variable{P:Program}{env:Env}{st:List AO}{dst:Option Tmp}{ty:TypeId}{pos:String}{after:Array Edge}{guard:Option (Nat×Bool)}
theorem oL{T:TypeId}{x y:Operand}{id ver off n T' k:Nat}{es es':List (List AV)}{r0 r:AV}{rs:List AV}(hx:opv env x=some (.pe id ver off))(hs:st[id]? =some (.os T' k ver es))(hy:opv env y=some r0)(hle:Le r0 r)(hk:r.okc=true)(hc:r.cells=rs)(hk1:rs.all AV.ok1=true)
  (hn:bz P T=some n)(hl:rs.length=n)(hlen:off+n≤es.flatten.length)(hes:es'.flatten=es.flatten.take off++rs++es.flatten.drop (off+n))(hel:es'.length=es.length)(hek:∀e∈es',e.length=k):
  gA P env st ⟨dst, .store T x y,ty,pos,after,guard⟩ (.d (.v undef)) (st.set id (.os T' k ver es')):=λm φ a w hsr he=>by
 obtain⟨b,len,cap,xs,g1,g2,g3,g4,g5,g6⟩:=l4 hsr he hx hs
 obtain⟨us,q1,q2⟩:=bi (hle _ _ _ _ (aA he hy)) hk
 rw[hc] at q2
 have hul:=aC q2
 have hxl:=aC g4
 obtain⟨r1,r2⟩:=g3
 rcases r2 with⟨hv,_⟩|⟨g,cap',cur,hv,p1,p2,p3,p4,p5,p6⟩
 ·cases hv
 simp only[Value.slice.injEq,aq,Addr.mk.injEq,and_true] at hv
 obtain⟨rfl,rfl,rfl⟩:=hv
 have hcl:es.length*k≤cur.size:=by rw[p5];exact Nat.mul_le_mul_right _ p3
 have hfl:es.flatten.length=es.length*k:=oM
 have hst:=run_storeCells_at P b off T' us 0 cur w p2 oM (iu q2 hk1)
 simp only[Nat.add_zero,hul,hl] at hst
 have hsize:us.length=n:=oM
 have hnew:RAs m φ w es'.flatten (xs.take off++us++xs.drop (off+n)):=by rw[hes];exact aD (aD (cC off g4) q2) (cD _ g4)
 have htk:((cur.toList.take off++us++cur.toList.drop (off+n)).toArray.toList).take (es.length*k)=xs.take off++us++xs.drop (off+n):=by
  rw[←p6]
  apply List.ext_getElem?
  intro j
  have hcz:cur.toList.length=cur.size:=sM
  simp only[List.getElem?_take,List.getElem?_append,List.length_append,List.length_take,List.getElem?_drop,hsize,hcz]
  rw[Nat.min_eq_left (show off≤cur.size by omega),Nat.min_eq_left (show es.length*k≤cur.size by omega),Nat.min_eq_left (show off≤es.length*k by omega)]
  by_cases h1:j<es.length*k
  ·rw[if_pos h1]
   by_cases h2:j<off+n
   ·rw[if_pos h2,if_pos h2]
    by_cases h3:j<off
    ·simp only[if_pos h3,if_pos h1]
    ·simp only[if_neg h3]
   ·rw[if_neg h2,if_neg h2]
    have:off+n+(j - (off+n))=j:=oM
    rw[this,if_pos h1]
  ·rw[if_neg h1,if_neg (show¬j<off+n by omega)]
   have:off+n+(j - (off+n))=j:=oM
   rw[this,if_neg h1]
 obtain⟨k1,k2⟩:=qR hsr hs g1 hnew hel hek cur p2 (cur.toList.take off++us++cur.toList.drop (off+n)).toArray (by simp[hsize];omega) htk
 refine⟨undef,_,m,φ, .inr ⟨?_,rfl⟩,k1,k2,RAv⟩
 simp[execOp,Instr.storeAt,Instr.sureAddr,g2,storeVar,q1,aT hn,hsize,hst]
theorem ny{α:Type}{R:α→List D}{k:Nat}(hR:∀x,(R x).length=k):∀L:List α,(L.map (aF R)).flatten.length=L.length*k
 |[]=>sM
 |x::L=>by simp only[List.map_cons,List.flatten_cons,List.length_append,List.length_cons,ny hR L,Nat.succ_mul,aF,List.length_map,hR];omega
theorem ig{α:Type}{R:α→List D}{k:Nat}(hR:∀x,(R x).length=k):∀{L:List α}{i:Nat}{x:α},L[i]? =some x→∃l1 l2,(L.map (aF R)).flatten=l1++aF R x++l2∧l1.length=i*k∧∀z,((L.set i z).map (aF R)).flatten=l1++aF R z++l2
 |[],i,x,h=>by simp at h
 |y::L,0,x,h=>by
  simp only[List.getElem?_cons_zero,aq] at h
  subst h
  exact⟨[],(L.map (aF R)).flatten,sM,sM,λz=>sM⟩
 |y::L,i+1,x,h=>by
  simp only[List.getElem?_cons_succ] at h
  obtain⟨l1,l2,h1,h2,h3⟩:=ig hR h
  refine⟨aF R y++l1,l2,by simp[h1],?_,λz=>?_⟩
  ·rw[List.length_append,h2,aF,List.length_map,hR,Nat.succ_mul];omega
  ·simp only[List.set_cons_succ,List.map_cons,List.flatten_cons,h3 z,List.append_assoc]
theorem n6{T n:Nat}{bb:Bool}{x ix:Operand}{id ver T' k:Nat}{α:Type}{R:α→List D}{L:List α}{kk:IntKind}{i:Int}{z:α}(hT:aL P T=some (n,bb))(hx:opv env x=some (.os id ver))(hs:st[id]? =some (.os T' k ver (L.map (aF R))))(hi:opv env ix=some (.d (.v (.int kk i))))(h:idx L i=some z):
  Yields P env st ⟨dst, .indexAddr T x ix,ty,pos,after,guard⟩ (.pe id ver (i.toNat*n)):=
 bq hT hx hs hi (ae h) (by rw[List.length_map];exact dw h)
theorem fK{S i fo n:Nat}{bb:Bool}{x:Operand}{id ver off T k:Nat}{es:List (List AV)}(hf:cW P S i=some (fo,n+1,bb))(hx:opv env x=some (.pe id ver off))(hs:st[id]? =some (.os T k ver es)):Yields P env st ⟨dst, .fieldAddr S x i,ty,pos,after,guard⟩ (.pe id ver (off+fo)):=λm φ a w hsr he=>by
 obtain⟨b,len,cap,xs,g1,g2,_⟩:=l4 hsr he hx hs
 exact⟨_,by simp only[RA];exact⟨_,_,g1,Nat.le_refl _,λ_=>⟨b,len,cap,rfl,rfl⟩⟩,λw' _=>by simp[execOp,g2,fN hf]⟩
theorem oa{T:TypeId}{x:Operand}{id ver off fo T' k:Nat}{α:Type}{R:α→List D}{L:List α}{i:Int}{z:α}{r:AV}(hx:opv env x=some (.pe id ver off))(hoff:off=i.toNat*k+fo)(hs:st[id]? =some (.os T' k ver (L.map (aF R))))(hT:aX P T=some false)(hR:∀x,(R x).length=k)(hi:idx L i=some z)(hr:(aF R z)[fo]? =some r):
  Yields P env st ⟨dst, .load T x,ty,pos,after,guard⟩ r:=by
 refine ck hx hs hT ?_
 subst hoff
 obtain⟨l1,l2,h1,h2,_⟩:=ig hR (bB hi)
 have hlt:=du hr
 rw[h1,List.getElem?_append_left (by rw[List.length_append];omega),List.getElem?_append_right oM,h2]
 rw[show i.toNat*k+fo - i.toNat*k=fo from by omega,hr]
theorem dl{T:TypeId}{x y:Operand}{id ver off fo n T' k:Nat}{α:Type}{R:α→List D}{L:List α}{i:Int}{z:α}(z':α){r0 r:AV}{rs:List AV}(hx:opv env x=some (.pe id ver off))(hoff:off=i.toNat*k+fo)(hs:st[id]? =some (.os T' k ver (L.map (aF R))))(hy:opv env y=some r0)(hle:Le r0 r)(hk:r.okc=true)(hc:r.cells=rs)(hk1:rs.all AV.ok1=true)
  (hn:bz P T=some n)(hl:rs.length=n)(hR:∀x,(R x).length=k)(hi:idx L i=some z)(hrl:Nat.ble (fo+n) k=true)(hz':aF R z'=(aF R z).take fo++rs++(aF R z).drop (fo+n)):
  gA P env st ⟨dst, .store T x y,ty,pos,after,guard⟩ (.d (.v undef)) (st.set id (.os T' k ver ((L.set i.toNat z').map (aF R)))):=by
 subst hoff
 obtain⟨l1,l2,h1,h2,h3⟩:=ig hR (bB hi)
 have hle2:=nbT hrl
 have hz:(aF R z).length=k:=by rw[aF,List.length_map,hR]
 refine oL hx hs hy hle hk hc hk1 hn hl (by rw[h1];simp only[List.length_append];omega) ?_ sM (λe he=>by obtain⟨x,_,rfl⟩:=List.mem_map.1 he;rw[aF,List.length_map,hR])
 have e1:(l1++aF R z++l2).take (i.toNat*k+fo)=l1++(aF R z).take fo:=by
  rw[List.append_assoc,List.take_append,List.take_of_length_le oM,h2,show i.toNat*k+fo - i.toNat*k=fo from by omega,List.take_append_of_le_length oM]
 have e2:(l1++aF R z++l2).drop (i.toNat*k+fo+n)=(aF R z).drop (fo+n)++l2:=by
  rw[List.append_assoc,List.drop_append,List.drop_eq_nil_of_le oM,h2,show i.toNat*k+fo+n - i.toNat*k=fo+n from by omega,List.nil_append,List.drop_append_of_le_length oM]
 rw[h1,h3,hz',e1,e2]
 simp[List.append_assoc]
end
end Go.Sk
namespace Go.Sk
open Go.RowKit (Below)
inductive LK where
 |int(k:IntKind)
 |bool
 |str
def LK.fits:LK→Value→Bool
 | .int k, .int k' _=>decide (k=k')
 | .bool, .bool _=>true
 | .str, .string _=>true
 |_,_=>false
def cr:List LK→List Value→Bool
 |[],[]=>true
 |k::ks,v::vs=>k.fits v&&cr ks vs
 |_,_=>false
def kg:Value→Value→Bool
 | .int _ a, .int _ b=>decide (a=b)
 | .bool a, .bool b=>a==b
 | .string a, .string b=>a.toList==b.toList
 |_,_=>false
def eqL:List Value→List Value→Bool
 |[],[]=>true
 |x::xs,y::ys=>kg x y&&eqL xs ys
 |_,_=>false
mutual
def jZ(P:Program):Nat→TypeId→Option (List LK)
 |0,_=>none
 |d+1,T=>match P.underlying T with
  |some (.int k)=>some [.int k]
  |some .bool=>some [.bool]
  |some .string=>some [.str]
  |some (.struct fs)=>if P.stoodInHeld T then none else leafF P d fs.toList 0
  |some (.array n e)=>bif Nat.ble 1 d then(match P.underlying e,bz P e with|some (.int k),some 1=>some (List.replicate n (.int k))|_,_=>none) else none
  |_=>none
def leafF(P:Program):Nat→List Field→Nat→Option (List LK)
 |_,[],_=>some []
 |0,_::_,_=>none
 |d+1,f::fs,off=>if f.name≠ "_"∧f.offset=off then
   match jZ P d f.type,bz P f.type with
   |some ks,some n=>if ks.length=n∧(aX P f.type=some true∨(aX P f.type=some false∧n=1)) then(leafF P d fs (off+n)).map (ks++·) else none
   |_,_=>none
  else none
end
theorem cV:∀{ks:List LK}{vs:List Value},cr ks vs=true→vs.length=ks.length
 |[],[],_=>rfl
 |k::ks,v::vs,h=>by simp only[cr,Bool.and_eq_true] at h;simp[cV h.2]
 |[],_::_,h=>by simp[cr] at h
 |_::_,[],h=>by simp[cr] at h
theorem fk:∀{ks ls:List LK}{vs:List Value},cr (ks++ls) vs=true→cr ks (vs.take ks.length)=true∧cr ls (vs.drop ks.length)=true
 |[],ls,vs,h=>by simpa[cr] using h
 |k::ks,ls,[],h=>by simp[cr] at h
 |k::ks,ls,v::vs,h=>by
  simp only[List.cons_append,cr,Bool.and_eq_true] at h
  obtain⟨h1,h2⟩:=fk h.2
  simp[cr,h.1,h1,h2]
theorem kh:∀{xs ys us vs:List Value},xs.length=ys.length→eqL (xs++us) (ys++vs)=(eqL xs ys&&eqL us vs)
 |[],[],us,vs,_=>by simp[eqL]
 |x::xs,y::ys,us,vs,h=>by simp only[List.cons_append,eqL,kh (xs:=xs) (ys:=ys) (by simpa using h),Bool.and_assoc]
 |[],_::_,_,_,h=>by simp at h
 |_::_,[],_,_,h=>by simp at h
def fq:TypeDesc→Bool| .struct _=>true| .array _ _=>true|_=>false
theorem kp{P:Program}{T:TypeId}{u:TypeDesc}(hu:P.underlying T=some u):aX P T=some (fq u):=by
 unfold aX;rw[hu];cases u<;>rfl
theorem ge{P:Program}{T:TypeId}{b:Bool}(h:aX P T=some b)(w:World):(isAgg T).run P w= .ok b w:=by
 unfold aX at h
 cases hu:P.underlying T with
 |none=>simp[hu] at h
 |some u=>
  simp only[hu,Option.map_some,aq] at h
  subst h
  simp only[isAgg,Sem.run_bind,run_underlying hu,Result.andThen_ok]
  cases u<;>simp
theorem jg{P:Program}{T:TypeId}{n:Nat}(h:bz P T=some n)(w:World):(sizeOf T).run P w= .ok n w:=by
 unfold bz at h
 cases hi:P.info? T with
 |none=>simp[hi] at h
 |some i=>
  simp only[hi,Option.map_some,aq] at h
  simp[sizeOf,typeInfo,hi,h]
def eqI:List Int→List Int→Bool
 |[],[]=>true
 |x::xs,y::ys=>decide (x=y)&&eqI xs ys
 |_,_=>false
theorem gH:∀(xs ys:List Int),xs.length=ys.length→((List.range xs.length).all λi=>decide (xs.getD i 0=ys.getD i 0))=eqI xs ys
 |[],[],_=>rfl
 |x::xs,y::ys,h=>by
  have ih:=gH xs ys (by simpa using h)
  rw[List.length_cons,List.range_succ_eq_map,List.all_cons,List.all_map]
  simp only[List.getD_cons_zero,Function.comp_def,List.getD_cons_succ,ih]
  rfl
 |[],_::_,h=>by simp at h
 |_::_,[],h=>by simp at h
theorem iF{P:Program}(w:World)(d:Nat)(t e:TypeId)(n:Nat)(k:IntKind)(ht:P.underlying t=some (.array n e))(he:P.underlying e=some (.int k))(hsz:∀w,(sizeOf e).run P w= .ok 1 w)
  (xs ys:List Int)(hx:xs.length=n)(hy:ys.length=n):
  (Op.equalIn (d+2) t (.agg (xs.map (Value.int k)).toArray) (.agg (ys.map (Value.int k)).toArray)).run P w= .ok (eqI xs ys) w:=by
 rw[←gH xs ys (hx.trans hy.symm),hx,List.range_eq_range',Op.equalIn]
 simp only[Sem.run_bind,run_underlying ht,Result.andThen_ok,hsz,Std.Legacy.Range.forIn_eq_forIn_range',Std.Legacy.Range.size,Nat.sub_zero,Nat.add_sub_cancel,Nat.div_one]
 have hl:∀i∈List.range' 0 n 1,i<n:=λi hi=>by simpa using (List.mem_range'_1.1 hi).2
 generalize List.range' 0 n 1=l at hl⊢
 induction l with
 |nil=>simp
 |cons i l ih=>
  have hi:i<n:=hl i sM
  have px:(part e (xs.map (Value.int k)).toArray (i*1)).run P w= .ok (Value.int k (xs.getD i 0)) w:=by
   simp[part,isAgg,run_underlying he,List.getD,geG (show i<xs.length by omega)]
  have py:(part e (ys.map (Value.int k)).toArray (i*1)).run P w= .ok (Value.int k (ys.getD i 0)) w:=by
   simp[part,isAgg,run_underlying he,List.getD,geG (show i<ys.length by omega)]
  have pe:(Op.equalIn (d+1) e (Value.int k (xs.getD i 0)) (Value.int k (ys.getD i 0))).run P w= .ok (decide (xs.getD i 0=ys.getD i 0)) w:=by
   simp[Op.equalIn,run_underlying he]
   rfl
  simp only[List.forIn_cons,Sem.run_bind,px,py,pe,Result.andThen_ok,List.all_cons]
  cases hb:decide (xs.getD i 0=ys.getD i 0)
  ·simp
  ·simp only[Bool.not_true,Bool.false_eq_true,if_false,Sem.run_pure,Result.andThen_ok,Bool.true_and]
   exact ih λj hj=>hl j (by simp[hj])
theorem iL{k:IntKind}:∀{n:Nat}{xs:List Value},cr (List.replicate n (.int k)) xs=true→∃l:List Int,xs=l.map (Value.int k)∧l.length=n
 |0,[],_=>⟨[],rfl,rfl⟩
 |0,x::xs,h=>by simp[cr] at h
 |n+1,[],h=>by simp[List.replicate_succ,cr] at h
 |n+1,x::xs,h=>by
  simp only[List.replicate_succ,cr,Bool.and_eq_true] at h
  obtain⟨l,rfl,hl⟩:=iL h.2
  cases x<;>simp only[LK.fits,Bool.false_eq_true,false_and] at h
  simp only[decide_eq_true_eq] at h
  obtain⟨rfl,_⟩:=h
  exact⟨_::l,rfl,by simp[hl]⟩
theorem nC{k:IntKind}:∀(xs ys:List Int),eqL (xs.map (Value.int k)) (ys.map (Value.int k))=eqI xs ys
 |[],[]=>rfl
 |x::xs,[]=>rfl
 |[],y::ys=>rfl
 |x::xs,y::ys=>by
  simp only[List.map_cons,eqL,eqI,nC xs ys]
  congr 1
theorem ek{P:Program}(w:World):∀(d:Nat),
  (∀(T:TypeId)(ks:List LK)(n:Nat)(xs ys:List Value),jZ P d T=some ks→d≤n→cr ks xs=true→cr ks ys=true→
   (aX P T=some true→(Op.equalIn n T (.agg ⟨xs⟩) (.agg ⟨ys⟩)).run P w= .ok (eqL xs ys) w)∧
   (aX P T=some false→∀x y,xs=[x]→ys=[y]→(Op.equalIn n T x y).run P w= .ok (eqL xs ys) w))∧
  (∀(fs:List Field)(off:Nat)(ks:List LK)(n:Nat)(xs ys:List Value),leafF P d fs off=some ks→d≤n→cr ks (xs.drop off)=true→cr ks (ys.drop off)=true→xs.length=ys.length→
   (Op.eqFields n ⟨xs⟩ ⟨ys⟩ fs).run P w= .ok (eqL (xs.drop off) (ys.drop off)) w)
 |0=>by
  constructor
  ·intro T ks n xs ys h;simp[jZ] at h
  ·intro fs off ks n xs ys h hn h1 h2 hl
   cases fs with
   |nil=>
    simp only[leafF,aq] at h
    subst h
    have a1:=cV h1
    have a2:=cV h2
    rw[List.eq_nil_of_length_eq_zero a1,List.eq_nil_of_length_eq_zero a2]
    simp[Op.eqFields,eqL]
   |cons f fs=>simp[leafF] at h
 |d+1=>by
  obtain⟨ihK,ihF⟩:=ek w d
  constructor
  ·intro T ks n xs ys h hn h1 h2
   obtain⟨n,rfl⟩:∃n',n=n'+1:=⟨n - 1,oM⟩
   simp only[jZ] at h
   cases hu:P.underlying T with
   |none=>simp[hu] at h
   |some u=>
    rw[hu] at h
    have hag:=kp hu
    cases u with
    |int k=>
     simp only[aq] at h
     subst h
     refine⟨λh=>by simp[hag,fq] at h,λ_ x y hx hy=>?_⟩
     subst hx;subst hy
     simp only[cr,Bool.and_true] at h1 h2
     cases x<;>simp only[LK.fits,Bool.false_eq_true] at h1
     cases y<;>simp only[LK.fits,Bool.false_eq_true] at h2
     simp only[decide_eq_true_eq] at h1 h2
     subst h1;subst h2
     rw[run_equalIn_int w n T _ k _ _ hu]
     simp[eqL,kg,Int.beq_dec]
    |bool=>
     simp only[aq] at h
     subst h
     refine⟨λh=>by simp[hag,fq] at h,λ_ x y hx hy=>?_⟩
     subst hx;subst hy
     simp only[cr,Bool.and_true] at h1 h2
     cases x<;>simp only[LK.fits,Bool.false_eq_true] at h1
     cases y<;>simp only[LK.fits,Bool.false_eq_true] at h2
     rw[run_equalIn_bool' w n T _ _ hu]
     simp[eqL,kg]
    |string=>
     simp only[aq] at h
     subst h
     refine⟨λh=>by simp[hag,fq] at h,λ_ x y hx hy=>?_⟩
     subst hx;subst hy
     simp only[cr,Bool.and_true] at h1 h2
     cases x<;>simp only[LK.fits,Bool.false_eq_true] at h1
     cases y<;>simp only[LK.fits,Bool.false_eq_true] at h2
     rw[run_equalIn_string w n T _ _ hu]
     simp[eqL,kg]
    |struct fs=>
     simp only at h
     split at h
     ·cases h
     ·rename_i hst
      refine⟨λ_=>?_,λh=>by simp[hag,fq] at h⟩
      have hf:P.fieldsOf T=fs:=by simp[Program.fieldsOf,hu]
      rw[run_equalIn_struct w n T ⟨xs⟩ ⟨ys⟩ (by rw[hf,hu]) (by simpa using hst),hf]
      have:=ihF fs.toList 0 ks n xs ys h oM (by simpa using h1) (by simpa using h2) (by rw[cV h1,cV h2])
      simpa using this
    |array m e=>
     simp only at h
     cases hd:Nat.ble 1 d with
     |false=>rw[hd] at h;cases h
     |true=>
      rw[hd] at h
      simp only[cdT] at h
      split at h
      ·rename_i k he hsz
       simp only[aq] at h
       subst h
       have hd1:=nbT hd
       obtain⟨l1,rfl,e1⟩:=iL h1
       obtain⟨l2,rfl,e2⟩:=iL h2
       refine⟨λ_=>?_,λh=>by simp[hag,fq] at h⟩
       obtain⟨n,rfl⟩:∃n',n=n'+1:=⟨n - 1,oM⟩
       rw[nC]
       exact iF w n T e m k hu he (jg hsz) l1 l2 e1 e2
      ·cases h
    |_=>simp at h
  ·intro fs off ks n xs ys h hn h1 h2 hl
   cases fs with
   |nil=>
    simp only[leafF,aq] at h
    subst h
    have a1:=cV h1
    have a2:=cV h2
    rw[List.eq_nil_of_length_eq_zero a1,List.eq_nil_of_length_eq_zero a2]
    simp[Op.eqFields,eqL]
   |cons f fs=>
    simp only[leafF] at h
    split at h
    ·rename_i hc
     obtain⟨hname,hoff⟩:=hc
     split at h
     ·rename_i ks1 m hk1 hm
      split at h
      ·rename_i hc2
       obtain⟨hlen,hag⟩:=hc2
       obtain⟨ks2,hks2,rfl⟩:=Option.map_eq_some_iff.1 h
       obtain⟨f1,f2⟩:=fk h1
       obtain⟨g1,g2⟩:=fk h2
       have lx:=cV h1
       have ly:=cV h2
       simp only[List.length_append,List.length_drop] at lx ly
       have key:∀zs:List Value,zs.length=xs.length→(part f.type ⟨zs⟩ f.offset).run P w= .ok (if aX P f.type=some true then .agg ⟨(zs.drop off).take m⟩ else((zs.drop off)[0]?).getD undef) w:=by
        intro zs hz
        rcases hag with hag|⟨hag,hm1⟩
        ·rw[if_pos hag]
         simp only[part,Sem.run_bind,ge hag,Result.andThen_ok,if_true,jg hm,Sem.run_pure]
         rw[hoff]
         congr 2
         apply Array.toList_inj.mp
         simp[List.extract_eq_take_drop]
        ·rw[if_neg (by rw[hag];simp)]
         simp only[part,Sem.run_bind,ge hag,Result.andThen_ok,Bool.false_eq_true,if_false]
         have:off<zs.length:=oM
         simp[hoff,this]
       have hmain:(Op.equalIn n f.type (if aX P f.type=some true then .agg ⟨(xs.drop off).take m⟩ else((xs.drop off)[0]?).getD undef) (if aX P f.type=some true then .agg ⟨(ys.drop off).take m⟩ else((ys.drop off)[0]?).getD undef)).run P w= .ok (eqL ((xs.drop off).take m) ((ys.drop off).take m)) w:=by
        obtain⟨i1,i2⟩:=ihK f.type ks1 n _ _ hk1 oM f1 g1
        rw[hlen] at i1 i2
        rcases hag with hag|⟨hag,hm1⟩
        ·rw[if_pos hag,if_pos hag];exact i1 hag
        ·rw[if_neg (by rw[hag];simp),if_neg (by rw[hag];simp)]
         have ex:∀zs:List Value,zs.length=xs.length→(zs.drop off).take m=[((zs.drop off)[0]?).getD undef]:=by
          intro zs hz
          have:off<zs.length:=oM
          subst hm1
          rw[List.drop_eq_getElem_cons this]
          rfl
         exact i2 hag _ _ (ex xs rfl) (ex ys hl.symm)
       have hrest:=ihF fs (off+m) ks2 n xs ys hks2 oM (by rw[List.drop_drop,hlen] at f2;exact f2) (by rw[List.drop_drop,hlen] at g2;exact g2) hl
       have hsplit:eqL (xs.drop off) (ys.drop off)=(eqL ((xs.drop off).take m) ((ys.drop off).take m)&&eqL (xs.drop (off+m)) (ys.drop (off+m))):=by
        conv=>lhs;rw[←List.take_append_drop m (xs.drop off),←List.take_append_drop m (ys.drop off)]
        rw[kh (by simp only[List.length_take,List.length_drop];omega),List.drop_drop,List.drop_drop]
       simp only[Op.eqFields,if_pos hname,Sem.run_bind,key xs rfl,key ys hl.symm,Result.andThen_ok,hmain]
       rw[hsplit]
       cases hb:eqL ((xs.drop off).take m) ((ys.drop off).take m) with
       |false=>simp
       |true=>simpa using hrest
      ·cases h
     ·cases h
    ·cases h
section
variable{P:Program}{env:Env}{st:List AO}{dst:Option Tmp}{ty:TypeId}{pos:String}{after:Array Edge}{guard:Option (Nat×Bool)}
theorem ir{φ w}:∀{vs cs:List Value},RFs φ w (vs.map D.v) cs→cs=vs
 |[],cs,h=>by simpa[RFs] using h
 |v::vs,cs,h=>by
  simp only[List.map_cons,RFs,RD] at h
  obtain⟨c,cs',rfl,rfl,h⟩:=h
  rw[ir h]
def jY(P:Program)(T:TypeId):Option (List LK):=bif P.eqGuardType P.depth T then none else match aX P T with|some true=>jZ P 100 T|_=>none
theorem iB{x y:Operand}{T T':TypeId}{xa ya:AV}{xs ys:List Value}{ks:List LK}{b:Bool}(hT:jY P T=some ks)(hx:opv env x=some xa)(hlx:Le xa (.d (.ag (xs.map D.v))))(hy:opv env y=some ya)(hly:Le ya (.d (.ag (ys.map D.v))))(h1:cr ks xs=true)(h2:cr ks ys=true)(hb:eqL xs ys=b):
  Yields P env st ⟨dst, .binOp .eql T x y T',ty,pos,after,guard⟩ (.d (.v (.bool b))):=λm φ a w _ he=>by
 unfold jY at hT
 cases hg:P.eqGuardType P.depth T with
 |true=>rw[hg] at hT;cases hT
 |false=>
  rw[hg] at hT
  simp only[cdF] at hT
  split at hT
  ·rename_i hag
   have ex:=hlx _ _ _ _ (aA he hx)
   have ey:=hly _ _ _ _ (aA he hy)
   simp only[RA,RD] at ex ey
   obtain⟨cs,e1,e2⟩:=ex
   obtain⟨ds,e3,e4⟩:=ey
   have e5:=ir e2
   rw[e5] at e1
   have e6:=ir e4
   rw[e6] at e3
   refine⟨_,RAv,λw' _=>?_⟩
   have:=((ek (P:=P) w' 100).1 T ks 10000 xs ys hT dC h1 h2).1 hag
   simp only[execOp,e1,e3,Sem.run_bind,run_eqGuard_agg w' .eql T x y ⟨xs⟩ ⟨ys⟩ hg,Result.andThen_ok,run_eql_struct w' T ⟨xs⟩ ⟨ys⟩,this,hb]
   rfl
  ·cases hT
end
end Go.Sk
namespace Go.Sk
open Go.RowKit (Below)
theorem kV(js:List Nat):∀l:List D,AV.rens js (l.map AV.d)=l.map AV.d
 |[]=>rfl
 |x::l=>by rw[List.map_cons,AV.rens,kV js l];rfl
theorem qV{α:Type}(js:List Nat)(T k v:Nat)(E:α→List D)(L:List α):AO.ren js (.os T k v (L.map (aF E)))= .os T k v (L.map (aF E)):=by
 simp only[AO.ren,List.map_map]
 congr 1
 apply List.map_congr_left
 intro x _
 exact kV js _
theorem dB{α:Type}{a b:α}{l l':List α}(h:a=b)(k:l=l'):a::l=b::l':=by rw[h,k]
section
variable{P:Program}{e:En}{ops:Array Oper}{l rest:List Oper}{env:Env}{st:List AO}{R:Env→List AO→Prop}{K:Ko}
theorem jw{o:Oper}{d:Nat}{f:FuncId}{c:Call}{x:Operand}{first caps asz as0:List AV}{st0 st0':List AO}{new new':Nat→List AO}{y:D}(js:List Nat)(hop:o.op= .call c)(hx:c.callee= .value x)
  (hf:opv env x=some (.fn (.func f) first caps))(has:cP env c.args.toList=some asz)(hc:Ctr P f as0 st0 (jr st0.length y new))(hl:Les (first++asz++caps) (AV.rens js as0))
  (hla:AV.lts js.length as0=true)(hj:js.Nodup)(hren0:st0.map (AO.ren js)=st0')(hwin:fF js st st0')(hlt:dF js.length st0=true)(hlive:gv st0=true)(hnew:∀i,dF js.length (new i)=true)
  (hren:∀i,(new i).map (AO.ren js)=new' i)
  (hw:Wt ops env o true)(ho:o.dst=some d)(hd:Nat.ble (d+1) e.n=true)(h:∀i,WL P e ops rest ((d, .d y)::env) (bM js (new' i) st) R):WL P e ops (o::rest) env st R:=
 s5 js hop hx hf has hc hl hla hj (by rw[hren0];exact hwin) hlt hlive hnew hw ho hd (λi=>by rw[hren i];exact h i)
end
end Go.Sk
namespace Go.Sk
open Go.RowKit (Below)
section
variable{P:Program}{e:En}{ops:Array Oper}{l rest:List Oper}{env:Env}{st:List AO}{R:Env→List AO→Prop}{K:Ko}
variable{dst:Option Tmp}{ty:TypeId}{pos:String}{after:Array Edge}{guard:Option (Nat×Bool)}
theorem uz{φ w}{ds:List (List D)}{y:Value}(h:RD φ w (.sl ds) y):∃a l c,y= .slice a l c∧(a.isNone=true→ds=[]):=by
 simp only[RD] at h
 rcases h with⟨rfl,a,cp,rfl,_⟩|⟨b,off,k,cap,rfl,_⟩
 ·exact⟨_,_,_,rfl,λ_=>rfl⟩
 ·exact⟨_,_,_,rfl,λh=>by simp at h⟩
theorem gf{T T' E d:Nat}{x:Operand}{xr:AV}{ds:List (List D)}{bo:BinOp}(neg:Bool)(hb:bo=bif neg then .neq else .eql)(hT:P.underlying T=some (.slice E))(hx:opv env x=some xr)(hl:Le xr (.d (.sl ds)))
  (hw:Wt ops env ⟨some d, .binOp bo T x (.const (.slice none 0 0)) T',ty,pos,after,guard⟩ true)(hd:Nat.ble (d+1) e.n=true)(h:∀b:Bool,(b=true→ds=[])→WL P e ops rest ((d, .d (.v (.bool (b !=neg))))::env) st R):
  WL P e ops (⟨some d, .binOp bo T x (.const (.slice none 0 0)) T',ty,pos,after,guard⟩::rest) env st R:=λm φ a w hi=>by
 have h1:=hl _ _ _ _ (aA hi.env hx)
 simp only[RA] at h1
 obtain⟨ad,ll,cc,h2,h3⟩:=uz h1
 unfold cN
 rw[if_pos (hw _ _ _ _ hi.env)]
 refine .inl ?_
 have hrun:(execOp a.eval ⟨some d, .binOp bo T x (.const (.slice none 0 0)) T',ty,pos,after,guard⟩).run P w= .ok (.value (.bool (ad.isNone !=neg))) w:=by
  subst hb
  cases neg
  ·have hc:a.eval (.const (.slice none 0 0))= .slice none 0 0:=rfl
   simp[execOp,h2,hc,eqGuard,binOp,run_equal_slice_nil w T E ad ll cc hT]
  ·have hc:a.eval (.const (.slice none 0 0))= .slice none 0 0:=rfl
   simp[execOp,h2,hc,eqGuard,binOp,run_equal_slice_nil w T E ad ll cc hT]
 simp only[Oper.wp,hrun,Oper.upon]
 exact h ad.isNone h3 m φ _ w (hi.put (nbT hd) RAv)
theorem WL.cast(t:Nat){x y:AV}(ht:env.get t=some x)(hl:Le x y)(h:WL P e ops rest ((t,y)::env) st R):WL P e ops rest env st R:=
 WL.sub (Sub.cons ht hl (Sub.refl env)) h
theorem iS(b:Bool):b=true∨b=false:=by cases b<;>simp
theorem dR{T el k by_:Nat}(hT:cS P T=some (el,k,by_)):DoesB P env st ⟨dst, .buildSlice T 0 #[],ty,pos,after,guard⟩ (.fs []) st:=λm φ a w hs he=>by
 obtain⟨i,ht,hi,rfl,rfl⟩:=dg hT
 have hso:(sizeOf el).run P w= .ok i.size w:=by simp[sizeOf,typeInfo,hi]
 have hb:Below w.heap.size w (w.alloc (.cells #[] el)):=(Below.refl _ _).alloc (Nat.le_refl _) _
 refine⟨.slice (some ⟨w.heap.size,0,none⟩) 0 0,w.alloc (.cells #[] el),m,φ,?_,Ev.of_below hs hb,hs.of_below hb,?_,hb⟩
 ·simp[execOp,Instr.buildSlice,run_underlying ht,hso,Instr.fill,newRow]
  have:Array.map (λx=>(default:Value)) (Array.range 0)= #[]:=by apply Array.toList_inj.mp;simp
  rw[this]
 ·simp only[RA,RD]
  exact⟨.inr ⟨w.heap.size,0,0,0,rfl,Nat.le_refl _,sM,by simp[REs]⟩,_,rfl⟩
theorem eu{T el k by_:Nat}{zs:List Value}{s x:Operand}{xr:AV}{c:Call}{α:Type}{E R:α→List D}(L L2:List α)(hER:∀x,E x=R x)(hT:cS P T=some (el,k,by_))(hz:aG P el=some zs)(hzl:zs.length=k)(hk:0<k)
  (hc:c=⟨.builtin .append, #[s,x], #[T,T]⟩)(hs:opv env s=some (.fs (L.map E)))(hx:opv env x=some xr)(hsrc:Src st xr k (L2.map (aF R)))(hR:∀x,(R x).length=k)(hok:cu by_ L L2=true):
  DoesB P env st ⟨dst, .call c,ty,pos,after,guard⟩ (.d (.sl ((L++L2).map E))) st:=by
 by_cases h0:0<L2.length
 ·exact(nm L L2 hER hT hz hzl hk hc hs hx hsrc hR h0 hok).data (bO hER _)
 ·have hL2:L2=[]:=List.eq_nil_of_length_eq_zero oM
  subst hL2
  rw[List.append_nil]
  intro m φ a w hsr he
  have hv:=aA he hs
  obtain⟨news,n1,n2,n3⟩:=hsrc m φ w _ hsr (aA he hx)
  obtain⟨i,ht,hi,rfl,rfl⟩:=dg hT
  simp only[RA] at hv
  obtain⟨hv1,a0,hv2⟩:=hv
  refine⟨a.eval s,w,m,φ,?_,Ev.refl m φ w,hsr,by simpa[RA] using hv1,Below.refl _ _⟩
  subst hc
  rcases n3 with⟨n3,_⟩|⟨ax,cx,hxv,_⟩
  ·cases a0<;>simp[execOp,resolve,invoke,builtin,Builtin.append_,hv2,n3,run_underlying ht,sizeOf,typeInfo,hi,Builtin.lenOf,Builtin.firstCells,storeCells]
  ·simp at hxv
   cases a0<;>simp[execOp,resolve,invoke,builtin,Builtin.append_,hv2,hxv,run_underlying ht,sizeOf,typeInfo,hi,Builtin.lenOf,Builtin.firstCells,storeCells,loadCells,loadCellsFrom]
end
end Go.Sk
namespace Go.Sk
open Go.RowKit (Below)
def fT:Value:= .slice none 0 0
def AO.mapc(f:AV→AV):AO→AO
 | .row T cs=> .row T (cs.map f)
 | .os T k v es=> .os T k v (es.map λe=>e.map f)
 | .mp es=> .mp (es.map λp=>(p.1,f p.2))
 | .fam T k v ess=> .fam T k v (ess.map λes=>es.map λe=>e.map f)
 | .si s p=> .si s p
 | .lp s vs a b=> .lp s (vs.map f) a b
 | .rsv=> .rsv
 | .dead=> .dead
theorem iA{f:AV→AV}{o:AO}:(o.mapc f).live=o.live:=by cases o<;>rfl
theorem RAs.mapc{m m':List Cz}{φ φ':Nat→Nat}{w w':World}{f:AV→AV}(hf:∀x v,RA m φ w x v→RA m' φ' w' (f x) v):∀{xs:List AV}{vs:List Value},RAs m φ w xs vs→RAs m' φ' w' (xs.map f) vs
 |[],vs,h=>by simpa[RAs] using h
 |x::xs,vs,h=>by
  simp only[RAs] at h
  obtain⟨c,cs,rfl,h2,h3⟩:=h
  exact aK (hf x c h2) (RAs.mapc hf h3)
theorem dx(f:AV→AV):∀es:List (List AV),(es.map λe=>e.map f).flatten=es.flatten.map f
 |[]=>rfl
 |e::es=>by simp only[List.map_cons,List.flatten_cons,dx f es,List.map_append]
theorem eL{w w':World}{T k n:Nat}{y:Value}{xs:List Value}(h:w.ownsRow 0 T k y n xs)(hb:∀b,y.ownBlock=some b→w'.heap[b]? =w.heap[b]?):w'.ownsRow 0 T k y n xs:=by
 refine⟨h.1,?_⟩
 rcases h.2 with g|⟨g,cap,cur,rfl,q1,q2,q3⟩
 ·exact .inl g
 ·exact .inr ⟨g,cap,cur,rfl,q1,(hb g rfl).trans q2,q3⟩
theorem OR.mapc{m m':List Cz}{φ φ':Nat→Nat}{w w':World}{c:Cz}{o:AO}{f:AV→AV}(h:OR m φ w o c)(hf:∀x v,RA m φ w x v→RA m' φ' w' (f x) v)(hb:∀b,c.has b→w'.heap[b]? =w.heap[b]?∧φ' b=φ b):OR m' φ' w' (o.mapc f) c:=by
 cases o with
 |row T cs=>
  obtain⟨b,rfl,h0,vs,h1,h2⟩:=h
  have:=hb b rfl
  exact⟨b,rfl,this.2.trans h0,vs,this.1.trans h1,RAs.mapc hf h2⟩
 |os T k ver es=>
  obtain⟨y,xs,rfl,h1,h2,h3,h4⟩:=h
  refine⟨y,xs,rfl,?_,by rw[dx];exact RAs.mapc hf h2,λe he=>?_,λb hy=>(hb b hy).2.trans (h4 b hy)⟩
  ·rw[List.length_map];exact eL h1 λb hy=>(hb b hy).1
  ·obtain⟨e',he',rfl⟩:=List.mem_map.1 he
   rw[List.length_map];exact h3 e' he'
 |mp es=>
  obtain⟨b,rfl,h0,l,cl,h1,h2,h3⟩:=h
  have:=hb b rfl
  refine⟨b,rfl,this.2.trans h0,l,cl,this.1.trans h1,by rw[h2];simp,?_⟩
  have:=RAs.mapc hf h3
  rw[List.map_map] at this⊢
  exact this
 |fam T k ver ess=>
  obtain⟨ys,rfl,h1,h2,h3⟩:=h
  refine⟨ys,rfl,by rw[List.length_map];exact h1,λj es y hj hy=>?_,h3⟩
  rw[List.getElem?_map,Option.map_eq_some_iff] at hj
  obtain⟨es',hj',rfl⟩:=hj
  obtain⟨xs,g1,g2,g3,g4⟩:=h2 j es' y hj' hy
  have hh:∀b,y.ownBlock=some b→w'.heap[b]? =w.heap[b]?∧φ' b=φ b:=λb hy'=>hb b ⟨y,List.mem_of_getElem? hy,hy'⟩
  refine⟨xs,by rw[List.length_map];exact eL g1 λb hy=>(hh b hy).1,by rw[dx];exact RAs.mapc hf g2,λe he=>?_,λb hy'=>(hh b hy').2.trans (g4 b hy')⟩
  obtain⟨e',he',rfl⟩:=List.mem_map.1 he
  rw[List.length_map];exact g3 e' he'
 |si s p=>
  obtain⟨b,rfl,h0,h1⟩:=h
  have:=hb b rfl
  exact⟨b,rfl,this.2.trans h0,this.1.trans h1⟩
 |lp s vs a b=>
  obtain⟨b,rfl,h0,r,us,h1,h2,h3⟩:=h
  have:=hb b rfl
  exact⟨b,rfl,this.2.trans h0,r,us,this.1.trans h1,h2,RAs.mapc hf h3⟩
 |rsv=>exact h
 |dead=>trivial
def gC(fid ver j nid:Nat):AV→AV
 | .osf f i v=>if f=fid∧v=ver then(if i=j then .os nid 0 else .osf fid i (ver+1)) else .osf f i v
 |x=>x
theorem ru{v:Nat}{ys ys':List Value}:(Cz.fam v ys).le (.fam (v+1) ys'):= .inr ⟨v+1,ys',rfl,Nat.lt_succ_self v⟩
theorem cQ{b:Nat}(h:fT.ownBlock=some b):False:=by simp[fT,Value.ownBlock] at h
theorem rq{m φ st w}{fid oid j T k ver:Nat}{ess:List (List (List AV))}{es:List (List AV)}{o:AO}(hs:SR m φ st w)(hf:st[fid]? =some (.fam T k ver ess))(ho:st[oid]? =some o)(hne:oid≠fid)(hj:ess[j]? =some es):
  ∃m' y,m[fid]? =some (.fam ver y)∧Ev m φ w m' φ w∧SR m' φ ((((st.set fid (.fam T k (ver+1) (ess.set j []))).set oid (o.mapc (gC fid ver j st.length)))++ [.os T k 0 es])) w∧
   (∀v,y[j]? =some v→RA m' φ w (.os st.length 0) v):=by
 have hfl:=(giS.1 hf).1
 obtain⟨c,hc⟩:∃c,m[fid]? =some c:=⟨_,geG (by rw[hs.len];exact hfl)⟩
 obtain⟨ys,rfl,h1,h2,h3⟩:=hs.obj fid _ c hf hc
 have hjl:j<ys.length:=by rw[h1];exact(giS.1 hj).1
 obtain⟨y,hy⟩:∃y,ys[j]? =some y:=⟨_,geG hjl⟩
 let m1:=m.set fid (.fam (ver+1) (ys.set j fT))
 let m':=m1++ [Cz.tok 0 y]
 have hml:m1.length=st.length:=by simp[m1,hs.len]
 have hnid:m'[st.length]? =some (.tok 0 y):=by simp[m',←hml]
 have hfid:m'[fid]? =some (.fam (ver+1) (ys.set j fT)):=by
  simp only[m']
  rw[List.getElem?_append_left (by rw[hml];exact hfl)]
  simp[m1,hs.len,hfl]
 have hoth:∀i,i<st.length→i≠fid→m'[i]? =m[i]? :=λi hi hif=>by
  simp only[m']
  rw[List.getElem?_append_left (by rw[hml];exact hi)]
  simp only[m1]
  rw[List.getElem?_set_ne (Ne.symm hif)]
 have hpre:Pre m m':=λi d hd=>by
  have hi:i<st.length:=by rw[←hs.len];exact(giS.1 hd).1
  by_cases hif:i=fid
  ·subst hif
   rw[hc] at hd
   obtain rfl:=inS hd
   exact⟨_,hfid,ru⟩
  ·exact⟨d,by rw[hoth i hi hif];exact hd,Cz.le_refl d⟩
 -- where the blocks of the new family come from
 have hmem:∀z,z∈ys.set j fT→z∈ys∨z=fT:=λz hz=>by
  rcases List.mem_or_eq_of_mem_set hz with h|h
  ·exact .inl h
  ·exact .inr h
 have hfh:∀b,(Cz.fam (ver+1) (ys.set j fT)).has b→(Cz.fam ver ys).has b:=by
  rintro b ⟨z,hz,hb⟩
  rcases hmem z hz with h|h
  ·exact⟨z,h,hb⟩
  ·subst h;exact(cQ hb).elim
 have hyh:∀b,(Cz.tok 0 y).has b→(Cz.fam ver ys).has b:=λb hb=>⟨y,List.mem_of_getElem? hy,hb⟩
 have hsplit:∀b,(Cz.fam (ver+1) (ys.set j fT)).has b→(Cz.tok 0 y).has b→False:=by
  rintro b ⟨z,hz,hb⟩ hb2
  obtain⟨i,hi⟩:=List.mem_iff_getElem?.1 hz
  by_cases hij:i=j
  ·subst hij
   rw[List.getElem?_set_self hjl] at hi
   obtain rfl:=inS hi
   exact cQ hb
  ·rw[List.getElem?_set_ne (Ne.symm hij)] at hi
   exact hij (h3 i j z y b hi hy hb hb2)
 have hre:∀x v,RA m φ w x v→RA m' φ w (gC fid ver j st.length x) v:=by
  intro x v hx
  have hm:=RA.mono hpre (Fz.refl φ w) x v hx
  cases x with
  |osf f i vv=>
   simp only[gC]
   split
   ·rename_i hcond
    obtain⟨rfl,rfl⟩:=hcond
    simp only[RA] at hx
    obtain⟨v0,ys0,q1,q2,q3⟩:=hx
    rw[hc] at q1
    simp only[aq,Cz.fam.injEq] at q1
    obtain⟨rfl,rfl⟩:=q1
    have q4:=q3 rfl
    split
    ·rename_i hij
     subst hij
     rw[hy] at q4
     obtain rfl:=inS q4
     simp only[RA]
     exact⟨0,y,hnid,Nat.le_refl _,λ_=>rfl⟩
    ·rename_i hij
     simp only[RA]
     exact⟨_,_,hfid,Nat.le_refl _,λ_=>by rw[List.getElem?_set_ne λh=>hij h.symm];exact q4⟩
   ·exact hm
  |_=>exact hm
 have hstf:((st.set fid (.fam T k (ver+1) (ess.set j []))).set oid (o.mapc (gC fid ver j st.length))).length=st.length:=sM
 have hol:=(giS.1 ho).1
 -- what stands at each place
 have get:∀(i:Nat)(p:AO),(((st.set fid (.fam T k (ver+1) (ess.set j []))).set oid (o.mapc (gC fid ver j st.length)))++ [AO.os T k 0 es])[i]? =some p→
   (i=st.length∧p= .os T k 0 es)∨(i=fid∧p= .fam T k (ver+1) (ess.set j []))∨(i=oid∧p=o.mapc (gC fid ver j st.length))∨(i<st.length∧i≠fid∧i≠oid∧st[i]? =some p):=by
  intro i p hp
  rcases Nat.lt_trichotomy i st.length with h|h|h
  ·rw[List.getElem?_append_left (by rw[hstf];exact h)] at hp
   by_cases hio:i=oid
   ·subst hio
    rw[List.getElem?_set_self (by simpa using hol)] at hp
    exact .inr (.inr (.inl ⟨rfl,(inS hp).symm⟩))
   ·rw[List.getElem?_set_ne (Ne.symm hio)] at hp
    by_cases hif:i=fid
    ·subst hif
     rw[List.getElem?_set_self hfl] at hp
     exact .inr (.inl ⟨rfl,(inS hp).symm⟩)
    ·rw[List.getElem?_set_ne (Ne.symm hif)] at hp
     exact .inr (.inr (.inr ⟨h,hif,hio,hp⟩))
  ·subst h
   rw[List.getElem?_append_right (by rw[hstf];exact Nat.le_refl _),hstf,Nat.sub_self] at hp
   exact .inl ⟨rfl,(inS hp).symm⟩
  ·rw[List.getElem?_eq_none (by simp;omega)] at hp
   cases hp
 have hnw:∀b,In m' b→In m b:=by
  rintro b ⟨i,d,hd,hb⟩
  rcases Nat.lt_trichotomy i st.length with h|h|h
  ·by_cases hif:i=fid
   ·subst hif
    rw[hfid] at hd
    obtain rfl:=inS hd
    exact⟨i,_,hc,hfh b hb⟩
   ·rw[hoth i h hif] at hd
    exact⟨i,d,hd,hb⟩
  ·subst h
   rw[hnid] at hd
   obtain rfl:=inS hd
   exact⟨fid,_,hc,hyh b hb⟩
  ·rw[List.getElem?_eq_none (by simp[m',hml];omega)] at hd
   cases hd
 refine⟨m',ys,hc,⟨hpre,λb h=> .inl (hnw b h),rfl,rfl,rfl,Nat.le_refl _,λ_ _ _=>⟨rfl,rfl⟩,Fz.refl φ w⟩,⟨?_,?_,hs.lt,?_,hs.gl,λb h=>hs.nb b (hnw b h)⟩,?_⟩
 ·simp[m',hml]
 ·intro i p d hp hd
  rcases get i p hp with⟨rfl,rfl⟩|⟨rfl,rfl⟩|⟨rfl,rfl⟩|⟨g1,g2,g3,g4⟩
  ·rw[hnid] at hd
   obtain rfl:=inS hd
   obtain⟨xs,q1,q2,q3,q4⟩:=h2 j es y hj hy
   exact⟨y,xs,rfl,q1,RAs.mono hpre (Fz.refl φ w) _ _ q2,q3,q4⟩
  ·rw[hfid] at hd
   obtain rfl:=inS hd
   refine⟨_,rfl,by simp[h1],λi' es' y' hi' hy'=>?_,λa b z z' bb ha hb hz hz'=>?_⟩
   ·by_cases hij:i'=j
    ·subst hij
     rw[List.getElem?_set_self (by rw[←h1];exact hjl)] at hi'
     rw[List.getElem?_set_self hjl] at hy'
     obtain rfl:=inS hi'
     obtain rfl:=inS hy'
     exact⟨[],World.ownsRow_nil w 0 T k,by simp[RAs],sM,λb hb=>(cQ hb).elim⟩
    ·rw[List.getElem?_set_ne (Ne.symm hij)] at hi' hy'
     obtain⟨xs,q1,q2,q3,q4⟩:=h2 i' es' y' hi' hy'
     exact⟨xs,q1,RAs.mono hpre (Fz.refl φ w) _ _ q2,q3,q4⟩
   ·have back:∀(a:Nat)(z:Value),(ys.set j fT)[a]? =some z→z.ownBlock=some bb→ys[a]? =some z:=λa z ha hz=>by
     by_cases haj:a=j
     ·subst haj
      rw[List.getElem?_set_self hjl] at ha
      obtain rfl:=inS ha
      exact(cQ hz).elim
     ·rwa [List.getElem?_set_ne (Ne.symm haj)] at ha
    exact h3 a b z z' bb (back a z ha hz) (back b z' hb hz') hz hz'
  ·rw[hoth i hol hne] at hd
   exact(hs.obj i o d ho hd).mapc hre (λ_ _=>⟨rfl,rfl⟩)
  ·rw[hoth i g1 g2] at hd
   have h:=hs.obj i p d g4 hd
   exact h.congr hpre (Fz.refl φ w) (λ_ _=>⟨rfl,rfl⟩)
 · -- no block in two objects
  have src:∀(i:Nat)(p:AO)(d:Cz)(b:Nat),(((st.set fid (.fam T k (ver+1) (ess.set j []))).set oid (o.mapc (gC fid ver j st.length)))++ [AO.os T k 0 es])[i]? =some p→p.live=true→m'[i]? =some d→d.has b→
    ∃(i0:Nat)(p0:AO)(d0:Cz),st[i0]? =some p0∧p0.live=true∧m[i0]? =some d0∧d0.has b∧((i=st.length∧i0=fid∧d= .tok 0 y)∨(i=fid∧i0=fid∧d= .fam (ver+1) (ys.set j fT))∨(i=i0∧i≠fid∧i≠st.length)):=by
   intro i p d b hp hl hd hb
   rcases get i p hp with⟨rfl,rfl⟩|⟨rfl,rfl⟩|⟨rfl,rfl⟩|⟨g1,g2,g3,g4⟩
   ·rw[hnid] at hd
    obtain rfl:=inS hd
    exact⟨fid,_,_,hf,rfl,hc,hyh b hb, .inl ⟨rfl,rfl,rfl⟩⟩
   ·rw[hfid] at hd
    obtain rfl:=inS hd
    exact⟨_,_,_,hf,rfl,hc,hfh b hb, .inr (.inl ⟨rfl,rfl,rfl⟩)⟩
   ·rw[hoth i hol hne] at hd
    exact⟨i,o,d,ho,by rwa [iA] at hl,hd,hb, .inr (.inr ⟨rfl,hne,Nat.ne_of_lt hol⟩)⟩
   ·rw[hoth i g1 g2] at hd
    exact⟨i,p,d,g4,hl,hd,hb, .inr (.inr ⟨rfl,g2,Nat.ne_of_lt g1⟩)⟩
  intro i i' p p' d d' b hp hp' l l' hd hd' hb hb'
  obtain⟨i0,p0,d0,a1,a2,a3,a4,a5⟩:=src i p d b hp l hd hb
  obtain⟨i1,p1,d1,b1,b2,b3,b4,b5⟩:=src i' p' d' b hp' l' hd' hb'
  have e:=hs.inj i0 i1 p0 p1 d0 d1 b a1 b1 a2 b2 a3 b3 a4 b4
  rcases a5 with⟨a6,a7,a8⟩|⟨a6,a7,a8⟩|⟨a6,a7,a8⟩<;>rcases b5 with⟨b6,b7,b8⟩|⟨b6,b7,b8⟩|⟨b6,b7,b8⟩
  ·omega
  ·subst a8;subst b8;exact(hsplit b hb' hb).elim
  ·omega
  ·subst a8;subst b8;exact(hsplit b hb hb').elim
  ·omega
  ·omega
  ·omega
  ·omega
  ·omega
 ·intro v hv
  rw[hy] at hv
  obtain rfl:=inS hv
  simp only[RA]
  exact⟨0,y,hnid,Nat.le_refl _,λ_=>rfl⟩
def kI(fid ver nid v j:Nat):AV→AV
 | .osf f i v'=>if f=fid∧v'=ver∧i≠j then .osf fid i (ver+1) else .osf f i v'
 | .os n v'=>if n=nid∧v'=v then .osf fid j (ver+1) else .os n v'
 |x=>x
theorem sO{m φ st w}{fid oid nid j T k ver v:Nat}{ess:List (List (List AV))}{es:List (List AV)}{o:AO}(hs:SR m φ st w)(hf:st[fid]? =some (.fam T k ver ess))(hn:st[nid]? =some (.os T k v es))(ho:st[oid]? =some o)(hne:oid≠fid)(hne2:oid≠nid)(hj:j<ess.length):
  ∃m',Ev m φ w m' φ w∧SR m' φ (((st.set fid (.fam T k (ver+1) (ess.set j es))).set nid .dead).set oid (o.mapc (kI fid ver nid v j))) w:=by
 have hfl:=(giS.1 hf).1
 have hnl:=(giS.1 hn).1
 have hol:=(giS.1 ho).1
 have hfn:fid≠nid:=λh=>by subst h;rw[hf] at hn;cases hn
 obtain⟨c,hc⟩:∃c,m[fid]? =some c:=⟨_,geG (by rw[hs.len];exact hfl)⟩
 obtain⟨ys,rfl,h1,h2,h3⟩:=hs.obj fid _ c hf hc
 obtain⟨cn,hcn⟩:∃c,m[nid]? =some c:=⟨_,geG (by rw[hs.len];exact hnl)⟩
 obtain⟨y,xs,rfl,k1,k2,k3,k4⟩:=hs.obj nid _ cn hn hcn
 have hjl:j<ys.length:=by rw[h1];exact hj
 let m':=m.set fid (.fam (ver+1) (ys.set j y))
 have hfid:m'[fid]? =some (.fam (ver+1) (ys.set j y)):=by simp[m',hs.len,hfl]
 have hoth:∀i,i≠fid→m'[i]? =m[i]? :=λi hif=>by simp only[m'];rw[List.getElem?_set_ne (Ne.symm hif)]
 have hpre:Pre m m':=λi d hd=>by
  by_cases hif:i=fid
  ·subst hif
   rw[hc] at hd
   obtain rfl:=inS hd
   exact⟨_,hfid,ru⟩
  ·exact⟨d,by rw[hoth i hif];exact hd,Cz.le_refl d⟩
 have hsrc:∀b,(Cz.fam (ver+1) (ys.set j y)).has b→(Cz.fam ver ys).has b∨(Cz.tok v y).has b:=by
  rintro b ⟨z,hz,hb⟩
  rcases List.mem_or_eq_of_mem_set hz with h|h
  ·exact .inl ⟨z,h,hb⟩
  ·subst h;exact .inr hb
 have hre:∀x u,RA m φ w x u→RA m' φ w (kI fid ver nid v j x) u:=by
  intro x u hx
  have hm:=RA.mono hpre (Fz.refl φ w) x u hx
  cases x with
  |osf f i vv=>
   simp only[kI]
   split
   ·rename_i hcond
    obtain⟨rfl,rfl,hij⟩:=hcond
    simp only[RA] at hx⊢
    obtain⟨v0,ys0,q1,q2,q3⟩:=hx
    rw[hc] at q1
    simp only[aq,Cz.fam.injEq] at q1
    obtain⟨rfl,rfl⟩:=q1
    exact⟨_,_,hfid,Nat.le_refl _,λ_=>by rw[List.getElem?_set_ne λh=>hij h.symm];exact q3 rfl⟩
   ·exact hm
  |os n vv=>
   simp only[kI]
   split
   ·rename_i hcond
    obtain⟨rfl,rfl⟩:=hcond
    simp only[RA] at hx⊢
    obtain⟨v0,y0,q1,q2,q3⟩:=hx
    rw[hcn] at q1
    simp only[aq,Cz.tok.injEq] at q1
    obtain⟨rfl,rfl⟩:=q1
    have:=q3 rfl
    subst this
    exact⟨_,_,hfid,Nat.le_refl _,λ_=>List.getElem?_set_self hjl⟩
   ·exact hm
  |_=>exact hm
 have get:∀(i:Nat)(p:AO),(((st.set fid (.fam T k (ver+1) (ess.set j es))).set nid .dead).set oid (o.mapc (kI fid ver nid v j)))[i]? =some p→
   (i=oid∧p=o.mapc (kI fid ver nid v j))∨(i=nid∧p= .dead)∨(i=fid∧p= .fam T k (ver+1) (ess.set j es))∨(i≠fid∧i≠nid∧i≠oid∧st[i]? =some p):=by
  intro i p hp
  by_cases hio:i=oid
  ·subst hio
   rw[List.getElem?_set_self (by simpa using hol)] at hp
   exact .inl ⟨rfl,(inS hp).symm⟩
  ·rw[List.getElem?_set_ne (Ne.symm hio)] at hp
   by_cases hin:i=nid
   ·subst hin
    rw[List.getElem?_set_self (by simpa using hnl)] at hp
    exact .inr (.inl ⟨rfl,(inS hp).symm⟩)
   ·rw[List.getElem?_set_ne (Ne.symm hin)] at hp
    by_cases hif:i=fid
    ·subst hif
     rw[List.getElem?_set_self hfl] at hp
     exact .inr (.inr (.inl ⟨rfl,(inS hp).symm⟩))
    ·rw[List.getElem?_set_ne (Ne.symm hif)] at hp
     exact .inr (.inr (.inr ⟨hif,hin,hio,hp⟩))
 have hnw:∀b,In m' b→In m b:=by
  rintro b ⟨i,d,hd,hb⟩
  by_cases hif:i=fid
  ·subst hif
   rw[hfid] at hd
   obtain rfl:=inS hd
   rcases hsrc b hb with h|h
   ·exact⟨i,_,hc,h⟩
   ·exact⟨nid,_,hcn,h⟩
  ·rw[hoth i hif] at hd
   exact⟨i,d,hd,hb⟩
 refine⟨m',⟨hpre,λb h=> .inl (hnw b h),rfl,rfl,rfl,Nat.le_refl _,λ_ _ _=>⟨rfl,rfl⟩,Fz.refl φ w⟩,⟨by simp[m',hs.len],?_,hs.lt,?_,hs.gl,λb h=>hs.nb b (hnw b h)⟩⟩
 ·intro i p d hp hd
  rcases get i p hp with⟨rfl,rfl⟩|⟨rfl,rfl⟩|⟨rfl,rfl⟩|⟨g1,g2,g3,g4⟩
  ·rw[hoth i hne] at hd
   exact(hs.obj i o d ho hd).mapc hre (λ_ _=>⟨rfl,rfl⟩)
  ·trivial
  ·rw[hfid] at hd
   obtain rfl:=inS hd
   refine⟨_,rfl,by simp[h1],λi' es' y' hi' hy'=>?_,λa b z z' bb ha hb hz hz'=>?_⟩
   ·by_cases hij:i'=j
    ·subst hij
     rw[List.getElem?_set_self hj] at hi'
     rw[List.getElem?_set_self hjl] at hy'
     obtain rfl:=inS hi'
     obtain rfl:=inS hy'
     exact⟨xs,k1,RAs.mono hpre (Fz.refl φ w) _ _ k2,k3,k4⟩
    ·rw[List.getElem?_set_ne (Ne.symm hij)] at hi' hy'
     obtain⟨xs,q1,q2,q3,q4⟩:=h2 i' es' y' hi' hy'
     exact⟨xs,q1,RAs.mono hpre (Fz.refl φ w) _ _ q2,q3,q4⟩
   ·have cross:∀(a:Nat)(z:Value),a≠j→(ys.set j y)[a]? =some z→z.ownBlock=some bb→y.ownBlock=some bb→False:=λa z haj ha hz hy=>by
     rw[List.getElem?_set_ne (Ne.symm haj)] at ha
     exact hfn (hs.inj _ nid _ _ (.fam _ ys) (.tok v y) bb hf hn rfl rfl hc hcn ⟨z,List.mem_of_getElem? ha,hz⟩ hy)
    by_cases haj:a=j
    ·subst haj
     rw[List.getElem?_set_self hjl] at ha
     obtain rfl:=inS ha
     by_cases hbj:b=a
     ·exact hbj.symm
     ·exact(cross b z' hbj hb hz' hz).elim
    ·by_cases hbj:b=j
     ·subst hbj
      rw[List.getElem?_set_self hjl] at hb
      obtain rfl:=inS hb
      exact(cross a z haj ha hz hz').elim
     ·rw[List.getElem?_set_ne (Ne.symm haj)] at ha
      rw[List.getElem?_set_ne (Ne.symm hbj)] at hb
      exact h3 a b z z' bb ha hb hz hz'
  ·rw[hoth i g1] at hd
   exact(hs.obj i p d g4 hd).congr hpre (Fz.refl φ w) (λ_ _=>⟨rfl,rfl⟩)
 ·have src:∀(i:Nat)(p:AO)(d:Cz)(b:Nat),(((st.set fid (.fam T k (ver+1) (ess.set j es))).set nid .dead).set oid (o.mapc (kI fid ver nid v j)))[i]? =some p→p.live=true→m'[i]? =some d→d.has b→
    ∃(i0:Nat)(p0:AO)(d0:Cz),st[i0]? =some p0∧p0.live=true∧m[i0]? =some d0∧d0.has b∧((i=fid∧(i0=fid∨i0=nid))∨(i=i0∧i≠fid∧i≠nid)):=by
   intro i p d b hp hl hd hb
   rcases get i p hp with⟨rfl,rfl⟩|⟨rfl,rfl⟩|⟨rfl,rfl⟩|⟨g1,g2,g3,g4⟩
   ·rw[hoth i hne] at hd
    exact⟨i,o,d,ho,by rwa [iA] at hl,hd,hb, .inr ⟨rfl,hne,hne2⟩⟩
   ·cases hl
   ·rw[hfid] at hd
    obtain rfl:=inS hd
    rcases hsrc b hb with h|h
    ·exact⟨_,_,_,hf,rfl,hc,h, .inl ⟨rfl, .inl rfl⟩⟩
    ·exact⟨_,_,_,hn,rfl,hcn,h, .inl ⟨rfl, .inr rfl⟩⟩
   ·rw[hoth i g1] at hd
    exact⟨i,p,d,g4,hl,hd,hb, .inr ⟨rfl,g1,g2⟩⟩
  intro i i' p p' d d' b hp hp' l l' hd hd' hb hb'
  obtain⟨i0,p0,d0,a1,a2,a3,a4,a5⟩:=src i p d b hp l hd hb
  obtain⟨i1,p1,d1,b1,b2,b3,b4,b5⟩:=src i' p' d' b hp' l' hd' hb'
  have e:=hs.inj i0 i1 p0 p1 d0 d1 b a1 b1 a2 b2 a3 b3 a4 b4
  rcases a5 with⟨a6,a7⟩|⟨a6,a7,a8⟩<;>rcases b5 with⟨b6,b7⟩|⟨b6,b7,b8⟩
  ·omega
  ·omega
  ·omega
  ·omega
end Go.Sk
namespace Go.Sk
open Go.RowKit (Below)
def bg(fid ver n:Nat):List (List AV):=(List.range n).map λi=> [AV.osf fid i ver]
abbrev bc{α:Type}(R:α→List D)(L:List (List α)):List (List (List AV)):=L.map λl=>l.map (aF R)
theorem eU(fid ver n:Nat):(bg fid ver n).length=n:=by simp[bg]
theorem ga{fid ver n:Nat}:∀e∈bg fid ver n,e.length=1:=λe he=>by
 simp only[bg,List.mem_map] at he
 obtain⟨i,_,rfl⟩:=he
 rfl
theorem kd{α:Type}:∀{es:List (List α)}{i:Nat}{x:α},(∀e∈es,e.length=1)→es[i]? =some [x]→es.flatten[i]? =some x
 |[],i,x,_,h=>by simp at h
 |e::es,i,x,hl,h=>by
  have he:=hl e sM
  match e,he with
  |[y],_=>
   cases i with
   |zero=>simp only[List.getElem?_cons_zero,aq,List.cons.injEq,and_true] at h;subst h;simp
   |succ i=>
    simp only[List.getElem?_cons_succ] at h
    simpa using kd (λe he=>hl e (by simp[he])) h
theorem rA{fid ver n i:Nat}(hi:i<n):(bg fid ver n).flatten[i]? =some (.osf fid i ver):=
 kd ga (by simp[bg,hi])
theorem nB{fid ver n j:Nat}{x:AV}:∀e∈(bg fid ver n).set j [x],e.length=1:=λe he=>by
 rcases List.mem_or_eq_of_mem_set he with h|h
 ·exact ga e h
 ·subst h;rfl
theorem rx{fid ver n j:Nat}{x:AV}(hj:j<n):((bg fid ver n).set j [x]).flatten[j]? =some x:=
 kd nB (by rw[List.getElem?_set_self (by rw[eU];exact hj)])
theorem qd{fid ver n j nid:Nat}(_hj:j<n):((bg fid ver n).map λe=>e.map (gC fid ver j nid))=(bg fid (ver+1) n).set j [.os nid 0]:=by
 apply List.ext_getElem?
 intro i
 simp only[bg,List.map_map,List.getElem?_map,List.getElem?_set,List.length_map,List.length_range]
 by_cases hi:i<n
 ·rw[List.getElem?_range hi]
  by_cases hij:j=i
  ·subst hij;simp[gC,hi]
  ·have:¬i=j:=λh=>hij h.symm
   simp[gC,hij,this]
 ·rw[List.getElem?_eq_none (by simpa using Nat.le_of_not_lt hi)]
  by_cases hij:j=i
  ·subst hij;omega
  ·simp[hij]
theorem ry{fid ver n j nid v:Nat}(_hj:j<n):(((bg fid ver n).set j [.os nid v]).map λe=>e.map (kI fid ver nid v j))=bg fid (ver+1) n:=by
 apply List.ext_getElem?
 intro i
 simp only[bg,List.getElem?_map,List.getElem?_set,List.length_map,List.length_range]
 by_cases hi:i<n
 ·rw[List.getElem?_range hi]
  by_cases hij:j=i
  ·subst hij;simp[kI,hi]
  ·have:¬i=j:=λh=>hij h.symm
   simp[kI,hij,this]
 ·rw[List.getElem?_eq_none (by simpa using Nat.le_of_not_lt hi)]
  by_cases hij:j=i
  ·subst hij;omega
  ·simp[hij]
section
variable{P:Program}{e:En}{ops:Array Oper}{l rest:List Oper}{env:Env}{st:List AO}{R:Env→List AO→Prop}{K:Ko}
def Gh(e:En)(env:Env)(st:List AO)(env':Env)(st':List AO):Prop:=∀m φ a w,Inv e m φ env st a w→∃m' φ',Inv e m' φ' env' st' a w
theorem rV{c:Code}{env':Env}{st':List AO}(h:Gh e env st env' st')(k:WC P e c K env' st'):WC P e c K env st:=λm φ a w hi=>
 let ⟨m',φ',hi'⟩:=h m φ a w hi
 k m' φ' a w hi'
theorem eY{env':Env}{st':List AO}(h:Gh e env st env' st')(k:WL P e ops l env' st' R):WL P e ops l env st R:=λm φ a w hi=>
 let ⟨m',φ',hi'⟩:=h m φ a w hi
 k m' φ' a w hi'
theorem pC{x:Exit}{env':Env}{st':List AO}(h:Gh e env st env' st')(k:WE P e x K env' st'):WE P e x K env st:=λm φ a w hi=>
 let ⟨m',φ',hi'⟩:=h m φ a w hi
 k m' φ' a w hi'
theorem rt{m φ st w}{T k:Nat}(n:Nat)(hs:SR m φ st w):Ev m φ w (m++ [.fam 0 (List.replicate n fT)]) φ w∧SR (m++ [.fam 0 (List.replicate n fT)]) φ (st++ [.fam T k 0 (List.replicate n [])]) w:=by
 have hnew:∀b,(Cz.fam 0 (List.replicate n fT)).has b→w.heap.size≤b:=by
  rintro b ⟨y,hy,hb⟩
  rw[(List.mem_replicate.1 hy).2] at hb
  exact(cQ hb).elim
 refine⟨Ev.push hs (Fz.refl φ w) (λ_ _=>rfl) (Nat.le_refl _) rfl rfl rfl hnew,SR.push hs (Fz.refl φ w) (λ_ _=>rfl) (Nat.le_refl _) ?_ hnew⟩
 refine⟨_,rfl,sM,λj es y hj hy=>?_,λi j y y' b hi _ hb _=>?_⟩
 ·rw[List.getElem?_replicate] at hj hy
  split at hj
  ·rename_i hl
   rw[if_pos hl] at hy
   obtain rfl:=inS hj
   obtain rfl:=inS hy
   exact⟨[],World.ownsRow_nil w 0 T k,by simp[RAs],sM,λb hb=>(cQ hb).elim⟩
  ·cases hj
 ·rw[List.getElem?_replicate] at hi
  split at hi
  ·obtain rfl:=inS hi
   exact(cQ hb).elim
  ·cases hi
theorem oK{α:Type}(E:α→List D)(oid T k:Nat){To v n:Nat}(hs:st[oid]? =some (.os To 1 v (List.replicate n [.d (.v (.slice none 0 0))]))):
  Gh e env st env ((st.set oid (.os To 1 v (bg st.length 0 (List.replicate n ([]:List α)).length)))++ [.fam T k 0 (bc E (List.replicate n []))]):=λm φ a w hi=>by
 obtain⟨h1,h2⟩:=rt (T:=T) (k:=k) n hi.sr
 have h3:=hi.go h1 h2
 have hol:=(giS.1 hs).1
 have ho:(st++ [AO.fam T k 0 (List.replicate n [])])[oid]? =some (.os To 1 v (List.replicate n [.d (.v (.slice none 0 0))])):=by
  rw[List.getElem?_append_left hol];exact hs
 have h4:=h3.sr.alter (o':= .os To 1 v (bg st.length 0 n)) ho rfl (λc hc=>by
  rintro⟨y,xs,rfl,q1,q2,q3,q4⟩
  refine⟨y,xs,rfl,by rw[eU];simpa using q1,?_,ga,q4⟩
  have hf:(m++ [Cz.fam 0 (List.replicate n fT)])[st.length]? =some (.fam 0 (List.replicate n fT)):=by rw[←hi.sr.len];simp
  have key:∀(l:List Nat)(vs:List Value),(∀i∈l,i<n)→RAs (m++ [Cz.fam 0 (List.replicate n fT)]) φ w (List.replicate l.length [AV.d (.v (.slice none 0 0))]).flatten vs→RAs (m++ [Cz.fam 0 (List.replicate n fT)]) φ w (l.map λi=> [AV.osf st.length i 0]).flatten vs:=by
   intro l
   induction l with
   |nil=>intro vs _ h;simpa using h
   |cons i l ih=>
    intro vs hl h
    simp only[List.length_cons,List.replicate_succ,List.flatten_cons,List.singleton_append,RAs] at h
    obtain⟨c,cs,rfl,r1,r2⟩:=h
    simp only[List.map_cons,List.flatten_cons,List.singleton_append]
    refine aK ?_ (ih cs (λi hi=>hl i (by simp[hi])) r2)
    simp only[RA,RD] at r1⊢
    subst r1
    exact⟨0,_,hf,Nat.le_refl _,λ_=>by rw[List.getElem?_replicate,if_pos (hl i sM)];rfl⟩
  have:=key (List.range n) xs (λi hi=>List.mem_range.1 hi) (by simpa using q2)
  exact this)
 refine⟨_,φ,⟨?_,h3.ev,h3.env,h3.sz,h3.df⟩⟩
 have e1:(st++ [AO.fam T k 0 (List.replicate n [])]).set oid (.os To 1 v (bg st.length 0 n))=(st.set oid (.os To 1 v (bg st.length 0 n)))++ [.fam T k 0 (List.replicate n [])]:=by
  rw[List.set_append_left _ _ hol]
 rw[e1] at h4
 simpa[bc] using h4
theorem fY{α:Type}{E:α→List D}{L:List (List α)}{x:List α}{i:Int}(oid fid:Nat){To vo T k ver:Nat}(ho:st[oid]? =some (.os To 1 vo (bg fid ver L.length)))(hf:st[fid]? =some (.fam T k ver (bc E L)))(hne:Nat.beq oid fid=false)(hi:idx L i=some x):
  Gh e env st env (((st.set fid (.fam T k (ver+1) (bc E (L.set i.toNat [])))).set oid (.os To 1 vo ((bg fid (ver+1) L.length).set i.toNat [.os st.length 0])))++ [.os T k 0 (x.map (aF E))]):=λm φ a w hinv=>by
 have hne':oid≠fid:=λh=>by simp[h] at hne
 have hx:=bB hi
 have hlt:=(giS.1 hx).1
 obtain⟨m',y,_,h2,h3,_⟩:=rq (es:=x.map (aF E)) hinv.sr hf ho hne' (by rw[List.getElem?_map,hx];rfl)
 have h4:=hinv.go h2 h3
 simp only[AO.mapc] at h4
 rw[qd hlt] at h4
 refine⟨m',φ,?_⟩
 simpa[bc,List.map_set] using h4
theorem j8{α:Type}{E:α→List D}{L:List (List α)}{_x x':List α}{j:Nat}(oid fid nid:Nat)(L':List (List α)){To vo T k ver v:Nat}(ho:st[oid]? =some (.os To 1 vo ((bg fid ver L.length).set j [.os nid v])))(hf:st[fid]? =some (.fam T k ver (bc E L)))(hn:st[nid]? =some (.os T k v (x'.map (aF E))))(hne:Nat.beq oid fid=false)(hne2:Nat.beq oid nid=false)(hj:j<L.length)(hL:L.set j x'=L'):
  Gh e env st env (((st.set fid (.fam T k (ver+1) (bc E L'))).set nid .dead).set oid (.os To 1 vo (bg fid (ver+1) L'.length))):=λm φ a w hinv=>by
 subst hL
 have hne':oid≠fid:=λh=>by simp[h] at hne
 have hne2':oid≠nid:=λh=>by simp[h] at hne2
 obtain⟨m',h2,h3⟩:=sO (j:=j) hinv.sr hf hn ho hne' hne2' (by simpa using hj)
 have h4:=hinv.go h2 h3
 simp only[AO.mapc] at h4
 rw[ry hj] at h4
 refine⟨m',φ,?_⟩
 simpa[bc,List.map_set] using h4
end
end Go.Sk
namespace Go.Sk
open Go.RowKit (Below)
section
variable{P:Program}{env:Env}{st:List AO}{dst:Option Tmp}{ty:TypeId}{pos:String}{after:Array Edge}{guard:Option (Nat×Bool)}
theorem nF{T:TypeId}{x y:Operand}{id ver off T' k:Nat}{es es':List (List AV)}{r:AV}(hx:opv env x=some (.pe id ver off))(hs:st[id]? =some (.os T' k ver es))(hy:opv env y=some r)
  (hone:∀m φ w v,SR m φ st w→RA m φ w r v→v.oneCell'=true∧v.cells= #[v])
  (hn:bz P T=some 1)(hlen:off+1≤es.flatten.length)(hes:es'.flatten=es.flatten.take off++ [r]++es.flatten.drop (off+1))(hel:es'.length=es.length)(hek:∀e∈es',e.length=k):
  gA P env st ⟨dst, .store T x y,ty,pos,after,guard⟩ (.d (.v undef)) (st.set id (.os T' k ver es')):=λm φ a w hsr he=>by
 obtain⟨b,len,cap,xs,g1,g2,g3,g4,g5,g6⟩:=l4 hsr he hx hs
 have q0:=aA he hy
 obtain⟨o1,o2⟩:=hone m φ w _ hsr q0
 have q2:RAs m φ w [r] [a.eval y]:=aK q0 bZ
 have hxl:=aC g4
 obtain⟨r1,r2⟩:=g3
 rcases r2 with⟨hv,_⟩|⟨g,cap',cur,hv,p1,p2,p3,p4,p5,p6⟩
 ·cases hv
 simp only[Value.slice.injEq,aq,Addr.mk.injEq,and_true] at hv
 obtain⟨rfl,rfl,rfl⟩:=hv
 have hcl:es.length*k≤cur.size:=by rw[p5];exact Nat.mul_le_mul_right _ p3
 have hfl:es.flatten.length=es.length*k:=oM
 have hst:=run_storeCells_at P b off T' [a.eval y] 0 cur w p2 (by simp;omega) (by simpa using o1)
 simp only[Nat.add_zero,List.length_singleton] at hst
 have hnew:RAs m φ w es'.flatten (xs.take off++ [a.eval y]++xs.drop (off+1)):=by rw[hes];exact aD (aD (cC off g4) q2) (cD _ g4)
 have htk:((cur.toList.take off++ [a.eval y]++cur.toList.drop (off+1)).toArray.toList).take (es.length*k)=xs.take off++ [a.eval y]++xs.drop (off+1):=by
  rw[←p6]
  apply List.ext_getElem?
  intro j
  have hcz:cur.toList.length=cur.size:=sM
  have hsize:[a.eval y].length=1:=rfl
  simp only[List.getElem?_take,List.getElem?_append,List.length_append,List.length_take,List.getElem?_drop,hsize,hcz]
  rw[Nat.min_eq_left (show off≤cur.size by omega),Nat.min_eq_left (show es.length*k≤cur.size by omega),Nat.min_eq_left (show off≤es.length*k by omega)]
  by_cases h1:j<es.length*k
  ·rw[if_pos h1]
   by_cases h2:j<off+1
   ·rw[if_pos h2,if_pos h2]
    by_cases h3:j<off
    ·simp only[if_pos h3,if_pos h1]
    ·simp only[if_neg h3]
   ·rw[if_neg h2,if_neg h2]
    have:off+1+(j - (off+1))=j:=oM
    rw[this,if_pos h1]
  ·rw[if_neg h1,if_neg (show¬j<off+1 by omega)]
   have:off+1+(j - (off+1))=j:=oM
   rw[this,if_neg h1]
 obtain⟨k1,k2⟩:=qR hsr hs g1 hnew hel hek cur p2 (cur.toList.take off++ [a.eval y]++cur.toList.drop (off+1)).toArray (by simp;omega) htk
 refine⟨undef,_,m,φ, .inr ⟨?_,rfl⟩,k1,k2,RAv⟩
 simp[execOp,Instr.storeAt,Instr.sureAddr,g2,storeVar,o2,aT hn,hst]
theorem mW{α:Type}:∀{es:List (List α)}{i:Nat}{x:α},(∀e∈es,e.length=1)→i<es.length→(es.set i [x]).flatten=es.flatten.take i++ [x]++es.flatten.drop (i+1)
 |[],i,x,_,h=>by simp at h
 |e::es,i,x,hl,h=>by
  have he:=hl e sM
  match e,he with
  |[y],_=>
   cases i with
   |zero=>simp
   |succ i=>
    have:=mW (x:=x) (λe he=>hl e (by simp[he])) (show i<es.length by simpa using h)
    simp only[List.set_cons_succ,List.flatten_cons,this]
    simp
theorem pa{α:Type}:∀{es:List (List α)},(∀e∈es,e.length=1)→es.flatten.length=es.length
 |[],_=>rfl
 |e::es,h=>by
  have h1:=pa (es:=es) (λe' he=>h e' (by simp[he]))
  have h2:=h e sM
  simp only[List.flatten_cons,List.length_append,List.length_cons]
  omega
theorem nG{T:TypeId}{x y:Operand}{oid vo fid ver nid v To n:Nat}{T' k':Nat}{es:List (List AV)}{i:Int}(hx:opv env x=some (.pe oid vo (i.toNat*1)))(hs:st[oid]? =some (.os To 1 vo (bg fid ver n)))(hy:opv env y=some (.os nid v))(hn:st[nid]? =some (.os T' k' v es))(hT:bz P T=some 1)(hi:i.toNat<n):
  gA P env st ⟨dst, .store T x y,ty,pos,after,guard⟩ (.d (.v undef)) (st.set oid (.os To 1 vo ((bg fid ver n).set i.toNat [.os nid v]))):=by
 rw[Nat.mul_one] at hx
 refine nF hx hs hy (dc hn) hT (by rw[pa ga,eU];omega) (mW ga (by rw[eU];exact hi)) sM nB
theorem gM{T:TypeId}{x:Operand}{oid vo fid ver To n:Nat}{i:Int}{z:AV}(hx:opv env x=some (.pe oid vo (i.toNat*1)))(hs:st[oid]? =some (.os To 1 vo ((bg fid ver n).set i.toNat [z])))(hT:aX P T=some false)(hi:i.toNat<n):Yields P env st ⟨dst, .load T x,ty,pos,after,guard⟩ z:=by
 rw[Nat.mul_one] at hx
 exact ck hx hs hT (rx hi)
theorem dn{T n0:Nat}{bb:Bool}{x ix:Operand}{id ver fid vf T' k:Nat}{n:Nat}{kk:IntKind}{i:Int}(hT:aL P T=some (n0,bb))(hx:opv env x=some (.os id ver))(hs:st[id]? =some (.os T' k ver (bg fid vf n)))(hi:opv env ix=some (.d (.v (.int kk i))))(h0:0≤i)(h1:i<n):
  Yields P env st ⟨dst, .indexAddr T x ix,ty,pos,after,guard⟩ (.pe id ver (i.toNat*n0)):=
 bq hT hx hs hi h0 (by rw[eU];exact h1)
theorem gh{T n:Nat}{bb:Bool}{x:Operand}{id ver T' k fid vf m:Nat}{c:Call}(hT:aL P T=some (n,bb))(hc:c=⟨.builtin .len, #[x], #[T]⟩)(hx:opv env x=some (.os id ver))(hi:st[id]? =some (.os T' k ver (bg fid vf m))):
  Yields P env st ⟨dst, .call c,ty,pos,after,guard⟩ (.d (.v (.int .i64 m))):=by
 have:=jD (P:=P) (dst:=dst) (ty:=ty) (pos:=pos) (after:=after) (guard:=guard) hT hc hx hi
 rwa [eU] at this
end
section
variable{P:Program}{e:En}{ops:Array Oper}{l rest:List Oper}{env:Env}{st:List AO}{R:Env→List AO→Prop}{K:Ko}
end
end Go.Sk
namespace Go.Sk
open Go.RowKit (Below)
section
variable{P:Program}{env:Env}{st:List AO}{dst:Option Tmp}{ty:TypeId}{pos:String}{after:Array Edge}{guard:Option (Nat×Bool)}
theorem gU{T:TypeId}{x:Operand}{r:AV}{ds:List D}(hx:opv env x=some r)(hk:r.okc=true)(hc:Les r.cells (ds.map .d)):DoesB P env st ⟨dst, .box T x,ty,pos,after,guard⟩ (.d (.pc ds)) st:=λm φ a w hs he=>by
 obtain⟨vs,h1,h2⟩:=bi (aA he hx) hk
 have h2':=cw (hc.ras h2)
 let w':=w.alloc (.cells ⟨vs⟩ T)
 let φ':Nat→Nat:=λb=>if b=w.heap.size then ds.length else φ b
 have hb:Below w.heap.size w w':=(Below.refl _ _).alloc (Nat.le_refl _) _
 have hF:Fz φ w φ' w':=λb off c g1 g2=>by
  have hlt:=bP hs g1
  refine⟨?_,by rw[aP (hb.block b hlt)];exact g2⟩
  show off<if b=w.heap.size then ds.length else φ b
  rw[if_neg oM];exact g1
 have hk':∀b,b<w.heap.size→w'.heap[b]? =w.heap[b]?∧φ' b=φ b:=λb hlt=>⟨hb.block b hlt,if_neg oM⟩
 have hlt:∀b,w'.heap.size≤b→φ' b=0:=λb h=>by
  have h3:w'.heap.size=w.heap.size+1:=by simp[w']
  show(if b=w.heap.size then ds.length else φ b)=0
  rw[if_neg oM];exact hs.lt b oM
 refine⟨.pointer (some ⟨w.heap.size,0,none⟩),w',m,φ',by simp[execOp,Instr.box,newVar,newRow,h1,w'],⟨Pre.refl m,λ_ h=> .inl h,hb.os,hb.tape,hb.output,hb.size,λb h _=>hk' b h,hF⟩,hs.of_keep hk' hF hlt,?_,hb⟩
 simp only[RA,RD]
 refine⟨_,0,rfl,dD (RFs.mono hF _ _ h2') λj v hj=>?_⟩
 have hjl:j<vs.length:=du hj
 have hvl:=fw h2'
 refine⟨?_,?_⟩
 ·show 0+j<if w.heap.size=w.heap.size then ds.length else φ w.heap.size
  rw[if_pos rfl];omega
 ·have:w'.heap[w.heap.size]? =some (.cells ⟨vs⟩ T (0,0)):=heap_alloc_new w _
  unfold World.cell?
  simp only[this]
  simpa using hj
end
theorem Le.fnc{f:Fn}{a b:List AV}{a' b':List D}(h:Les a (a'.map .d))(k:Les b (b'.map .d)):Le (.fn f a b) (.d (.fnc f a' b')):=λ_ _ _ _ hh=>by
 simp only[RA,RD] at hh⊢
 obtain⟨fs,cs,h1,h2,h3⟩:=hh
 exact⟨fs,cs,h1,cw (h.ras h2),cw (k.ras h3)⟩
theorem fx(f:Fn)(a b:List D):Le (.d (.fnc f a b)) (.fn f (a.map .d) (b.map .d)):=λ_ _ _ _ hh=>by
 simp only[RA,RD] at hh⊢
 obtain⟨fs,cs,h1,h2,h3⟩:=hh
 exact⟨fs,cs,h1,cy h2,cy h3⟩
theorem Les.app:∀{xs ys us vs:List AV},Les xs ys→Les us vs→Les (xs++us) (ys++vs)
 |[],[],_,_,_,k=>k
 |_x::_xs,_y::_ys,_,_,h,k=>⟨h.1,Les.app h.2 k⟩
 |[],_::_,_,_,h,_=>h.elim
 |_::_,[],_,_,h,_=>h.elim
theorem jy{fi ca:List D}{asz:List AV}{ds:List D}(h:Les asz (ds.map .d)):Les (fi.map .d++asz++ca.map .d) ((fi++ds++ca).map .d):=by
 rw[List.map_append,List.map_append]
 exact Les.app (Les.app (Les.refl _) h) (Les.refl _)
section
variable{P:Program}{env:Env}{st:List AO}{dst:Option Tmp}{ty:TypeId}{pos:String}{after:Array Edge}{guard:Option (Nat×Bool)}
end
end Go.Sk
namespace Go.Sk
open Go.RowKit (Below)
def eH(s:ByteArray)(i:Int):Option Int:=if h:0≤i∧i<s.size then some ((s[i.toNat]'oM).toNat:Int) else none
def pX(s:ByteArray)(l h:Int):Option ByteArray:=bif decide (0≤h)&&decide (h≤(s.size:Int))&&decide (0≤l)&&decide (l≤h) then some (s.extract l.toNat h.toNat) else none
section
variable{P:Program}{env:Env}{st:List AO}{dst:Option Tmp}{ty:TypeId}{pos:String}{after:Array Edge}{guard:Option (Nat×Bool)}
theorem cM{T:TypeId}{x ix:Operand}{k:IntKind}{s:ByteArray}{i r:Int}(hT:P.underlying T=some .string)(hx:opv env x=some (.d (.v (.string s))))(hi:opv env ix=some (.d (.v (.int k i))))(h:eH s i=some r):
  Yields P env st ⟨dst, .index T x ix,ty,pos,after,guard⟩ (.d (.v (.int .u8 r))):=λm φ a w _ he=>by
 refine⟨_,RAv,λw' _=>?_⟩
 unfold eH at h
 split at h
 ·rename_i hc
  simp only[aq] at h
  subst h
  simp only[execOp,aN he hx,aN he hi,Sem.run_bind,run_index_string w' T s k i hT,dif_pos hc]
  simp
 ·cases h
theorem tL{T:TypeId}{x l h:Operand}{k k':IntKind}{s r:ByteArray}{i j:Int}(hT:P.underlying T=some .string)(hx:opv env x=some (.d (.v (.string s))))(hl:opv env l=some (.d (.v (.int k i))))(hh:opv env h=some (.d (.v (.int k' j))))(hr:pX s i j=some r):
  Yields P env st ⟨dst, .slice T x (some l) (some h) none,ty,pos,after,guard⟩ (.d (.v (.string r))):=λm φ a w _ he=>by
 refine⟨_,RAv,λw' _=>?_⟩
 unfold pX at hr
 cases hc:(decide (0≤j)&&decide (j≤(s.size:Int))&&decide (0≤i)&&decide (i≤j)) with
 |false=>rw[hc] at hr;cases hr
 |true=>
  rw[hc] at hr
  obtain rfl:=inS hr
  simp only[Bool.and_eq_true,decide_eq_true_eq] at hc
  simp[execOp,aN he hx,aN he hl,aN he hh,Instr.sliceAt,run_underlying hT,run_slice_string_if w' T s k k' i j hT,hc]
theorem rY{T:TypeId}{x l:Operand}{k:IntKind}{s r:ByteArray}{i:Int}(hT:P.underlying T=some .string)(hx:opv env x=some (.d (.v (.string s))))(hl:opv env l=some (.d (.v (.int k i))))(hr:pX s i s.size=some r):
  Yields P env st ⟨dst, .slice T x (some l) none none,ty,pos,after,guard⟩ (.d (.v (.string r))):=λm φ a w _ he=>by
 refine⟨_,RAv,λw' _=>?_⟩
 unfold pX at hr
 cases hc:(decide (0≤(s.size:Int))&&decide ((s.size:Int)≤(s.size:Int))&&decide (0≤i)&&decide (i≤(s.size:Int))) with
 |false=>rw[hc] at hr;cases hr
 |true=>
  rw[hc] at hr
  obtain rfl:=inS hr
  simp only[Bool.and_eq_true,decide_eq_true_eq] at hc
  simp[execOp,aN he hx,aN he hl,Instr.sliceAt,run_underlying hT,run_slice_string_from_if w' T s k i hT,hc]
end
end Go.Sk
namespace Go.Sk
open Go.RowKit (Below)
open Go.MapKept (IsKey sameNow_of_keys run_getObj_map run_setObj_map run_checkKey run_findKey run_keyThatStays)
theorem kY{κ α:Type}[DecidableEq κ]{k:κ}:cA ([]:List (κ×α)) k=none:=rfl
theorem aE{κ α:Type}[DecidableEq κ]{k a:κ}{x:α}{L:List (κ×α)}(h:¬k=a)(r:cA L k=none):cA ((a,x)::L) k=none:=by
 rw[cA,if_neg λe=>h e.symm,r]
section
variable{P:Program}{env:Env}{st:List AO}{dst:Option Tmp}{ty:TypeId}{pos:String}{after:Array Edge}{guard:Option (Nat×Bool)}
variable{κ α:Type}[DecidableEq κ]
theorem ba{T kt et:TypeId}{d:TypeDesc}{x ki:Operand}{id:Nat}(kf:κ→Value)(g:α→AV)(L:List (κ×α)){k:κ}{z:α}{zv:Value}{r:AV}{b:Bool}(hT:P.underlying T=some (.map kt et))(hd:P.underlying kt=some d)(hK:KeyF d kf)
  (hx:opv env x=some (.mp id))(hi:st[id]? =some (mpO kf g L))(hk:opv env ki=some (.d (.v (kf k))))(hz:(P.info? et).bind (·.zero)=some zv)(hgz:g z= .d (.v zv))(hr:g ((cA L k).getD z)=r)(hb:(cA L k).isSome=b):
  Yields P env st ⟨dst, .lookup T x ki true,ty,pos,after,guard⟩ (.tu [r, .d (.v (.bool b))]):=λm φ a w hs he=>by
 subst hr;subst hb
 obtain⟨b,h1,h2⟩:=jS he hx
 obtain⟨b',hbb,h0,l,cl,g1,g2,g3⟩:=hs.obj id _ _ hi h1
 simp only[Cz.blk.injEq] at hbb
 subst hbb
 have hkeys:l.map (·.key)=L.map (λp=>kf p.1):=by rw[g2];simp
 have hkv:=aN he hk
 have hlt:=cK g1
 have tu:∀{x:AV}{v:Value}{c:Bool},RA m φ w x v→RA m φ w (.tu [x, .d (.v (.bool c))]) (.tuple #[v, .bool c]):=λh=>by
  simp only[RA];exact⟨_,rfl,aK h (aK RAv bZ)⟩
 cases hinf:P.info? et with
 |none=>simp[hinf] at hz
 |some i=>
  simp only[hinf,bnS] at hz
  rcases fp hK k L l 0 hkeys with⟨q1,q2,_⟩|⟨j,e,y,q1,q2,q3,q4,q5,_⟩
  ·refine⟨.tuple #[zv, .bool false],by rw[q1,Option.getD_none,hgz];exact tu RAv,λw' hb=>?_⟩
   have g1':w'.heap[b]? =some (.map ⟨l⟩ cl):=by rw[hb.block b hlt];exact g1
   simp[execOp,Instr.lookup,h2,hkv,run_underlying hT,MapKept.run_getObj_map g1',run_checkKey hd (hK.key k),run_findKey hd q2,zeroValue,typeInfo,hinf,hz,Result.andThen]
  ·have hval:RA m φ w (g y) e.val:=by
    have:(((L.map λp=>(kf p.1,g p.2)).map (·.2)))[j]? =some (g y):=by simp[q2]
    obtain⟨v',hv1,hv2⟩:=ce g3 this
    simp only[List.getElem?_map,q1,Option.map_some,aq] at hv1
    rw[hv1];exact hv2
   refine⟨.tuple #[e.val, .bool true],by rw[q3,Option.getD_some];exact tu hval,λw' hb=>?_⟩
   have g1':w'.heap[b]? =some (.map ⟨l⟩ cl):=by rw[hb.block b hlt];exact g1
   simp[execOp,Instr.lookup,h2,hkv,run_underlying hT,MapKept.run_getObj_map g1',run_checkKey hd (hK.key k),run_findKey hd q5,Result.andThen]
end
end Go.Sk
namespace Go.Sk
open Go.RowKit (Below)
def AV.okS(st:List AO):AV→Bool
 | .os id ver=>match st[id]? with|some (.os _ _ v _)=>Nat.beq v ver|_=>false
 |x=>x.okc
theorem lq{m φ w st}{x:AV}{y:Value}(hs:SR m φ st w)(h:RA m φ w x y)(hk:x.okS st=true):∃vs,y.cells=⟨vs⟩∧RAs m φ w x.cells vs:=by
 cases x with
 |os id ver=>
  simp only[AV.okS] at hk
  split at hk
  ·rename_i T k v es hi
   obtain rfl:=nbE hk
   exact⟨[y],(dc hi m φ w y hs h).2,aK h bZ⟩
  ·cases hk
 |u=>exact bi h hk
 |d z=>exact bi h hk
 |ag ps=>exact bi h hk
 |pt id off=>exact bi h hk
 |sr id off len cap=>exact bi h hk
 |fn f a b=>exact bi h hk
 |mp id=>exact bi h hk
 |tu l=>exact bi h hk
 |pe id v off=>exact bi h hk
 |ow id v off len lo=>exact bi h hk
 |fs es=>exact bi h hk
 |ifc t x=>exact bi h hk
 |osf id j v=>exact bi h hk
 |pem id j v off=>exact bi h hk
 |yl id=>exact bi h hk
def ij(st:List AO)(place:Nat→Option (Nat×Nat))(cells:List AV):List (Nat×AV)→Option (List AV)
 |[]=>some cells
 |(i,v)::rest=>
  match place i with
  |none=>none
  |some (off,size)=>
   bif Nat.beq v.cells.length size&&Nat.ble (off+v.cells.length) cells.length&&v.okS st then ij st place (cells.take off++(v.cells++cells.drop (off+size))) rest
   else none
theorem ke{m φ w st}(hsr:SR m φ st w){place:Nat→Option (Nat×Nat)}:∀{parts:List (Nat×AV)}{pv:List (Nat×Value)}{cells cs:List AV}{vs:List Value},parts.map (·.1)=pv.map (·.1)→RAs m φ w (parts.map (·.2)) (pv.map (·.2))→
  RAs m φ w cells vs→ij st place cells parts=some cs→∃us,Instr.fill place ⟨vs⟩ pv=some ⟨us⟩∧RAs m φ w cs us
 |[],pv,cells,cs,vs,hi,hv,hc,hf=>by
  simp only[ij,aq] at hf
  subst hf
  cases pv with
  |nil=>exact⟨vs,rfl,hc⟩
  |cons p pv=>simp at hi
 |(i,x)::parts,[],cells,cs,vs,hi,hv,hc,hf=>by simp at hi
 |(i,x)::parts,(i',v)::pv,cells,cs,vs,hi,hv,hc,hf=>by
  simp only[List.map_cons,List.cons.injEq] at hi
  obtain⟨rfl,hi⟩:=hi
  simp only[List.map_cons,RAs] at hv
  obtain⟨c,cs',he,hx,hv⟩:=hv
  simp only[List.cons.injEq] at he
  obtain⟨rfl,rfl⟩:=he
  unfold ij at hf
  split at hf
  ·cases hf
  ·rename_i off size hp
   cases hb:(Nat.beq x.cells.length size&&Nat.ble (off+x.cells.length) cells.length&&x.okS st) with
   |false=>rw[hb] at hf;cases hf
   |true=>
    rw[hb] at hf
    simp only[cdT] at hf
    simp only[Bool.and_eq_true] at hb
    obtain⟨⟨b1,b2⟩,b3⟩:=hb
    have b1:=nbE b1
    have b2:=nbT b2
    obtain⟨us,g1,g2⟩:=lq hsr hx b3
    have l1:=aC g2
    have l2:=aC hc
    obtain⟨us',k1,k2⟩:=ke hsr hi hv (aD (cC off hc) (aD g2 (cD (off+size) hc))) hf
    refine⟨us',?_,k2⟩
    rw[iM hp (by rw[g1];simp;omega) (by rw[g1];simp;omega)]
    rw[g1]
    simpa using k1
section
variable{P:Program}{env:Env}{st:List AO}{dst:Option Tmp}{ty:TypeId}{pos:String}{after:Array Edge}{guard:Option (Nat×Bool)}
theorem mB{T:TypeId}{parts:Array (Nat×Operand)}{pl:List (Nat×Nat)}{zs:List Value}{xs cs:List AV}(hp:bD P T=some pl)(hz:aG P T=some zs)(hx:cP env (parts.toList.map (·.2))=some xs)
  (hf:ij st (λi=>pl[i]?) (zs.map λv=> .d (.v v)) (jB parts.toList xs)=some cs):Yields P env st ⟨dst, .build T parts,ty,pos,after,guard⟩ (.ag cs):=λm φ a w hs he=>by
 have h1:=ib he hx
 have hl:parts.toList.length=xs.length:=by have:=dO hx;simpa using this.symm
 obtain⟨e1,e2⟩:=gW (l:=parts.toList) (xs:=xs) hl rfl
 obtain⟨us,g1,g2⟩:=ke hs (m:=m) (φ:=φ) (w:=w) (parts:=jB parts.toList xs) (pv:=parts.toList.map λ(i,x)=>(i,a.eval x)) (by rw[e1];simp[Function.comp_def]) (by rw[e2];exact h1) (dJ zs) hf
 refine⟨.agg ⟨us⟩,by simp only[RA];exact⟨us,rfl,g2⟩,λw' hb=>?_⟩
 obtain⟨z,z1,z2⟩:=dM hz w'
 unfold bD at hp
 split at hp
 ·rename_i fs hu
  have hm:=eJ (P:=P) (λf:Field=>(Prod.mk f.offset<$>sizeOf f.type:Sem (Nat×Nat))) (λf=>(bz P f.type).map λn=>(f.offset,n)) w' fs.toList pl (λf b _ hb=>by
   cases hsz:bz P f.type with
   |none=>simp[hsz] at hb
   |some n=>simp only[hsz,Option.map_some,aq] at hb;subst hb;simp[aT hsz]) hp
  have hm':(fs.mapM (λf:Field=>(Prod.mk f.offset<$>sizeOf f.type:Sem (Nat×Nat)))).run P w'= .ok pl.toArray w':=by
   rw[←Array.toArray_toList (xs:=fs),List.mapM_toArray]
   simp[hm]
  simp[execOp,Instr.build,z1,run_underlying hu,hm',z2,g1]
 ·cases hp
end
end Go.Sk
namespace Go.Sk
open Go.RowKit (Below)
section
variable{P:Program}{env:Env}{st:List AO}{o:Oper}
end
theorem ep{e:En}{env:Env}{st:List AO}:Gh e env st env (st++ [.rsv]):=λm φ a w hi=>by
 have hF:Fz φ w φ w:=Fz.refl _ _
 have hnew:∀b,Cz.non.has b→w.heap.size≤b:=λb hb=>hb.elim
 exact⟨_,_,hi.go (Ev.push hi.sr hF (λ_ _=>rfl) (Nat.le_refl _) rfl rfl rfl hnew) (SR.push hi.sr hF (λ_ _=>rfl) (Nat.le_refl _) rfl hnew)⟩
theorem nk{P:Program}{env:Env}{st:List AO}{dst:Option Tmp}{ty:TypeId}{pos:String}{after:Array Edge}{guard:Option (Nat×Bool)}{T el k by_:Nat}(hT:cS P T=some (el,k,by_)):NewOs P env st ⟨dst, .buildSlice T 0 #[],ty,pos,after,guard⟩ el k []:=λm φ a w hs he=>by
 obtain⟨i,ht,hi,rfl,rfl⟩:=dg hT
 have hso:(sizeOf el).run P w= .ok i.size w:=by simp[sizeOf,typeInfo,hi]
 have hb:Below w.heap.size w (w.alloc (.cells #[] el)):=(Below.refl _ _).alloc (Nat.le_refl _) _
 have hF:=Fz.alloc hs (.cells #[] el)
 have hk:∀b,b<w.heap.size→(w.alloc (.cells #[] el)).heap[b]? =w.heap[b]? :=λb hb=>bt hb
 have hnew:∀b,(Cz.tok 0 (.slice (some ⟨w.heap.size,0,none⟩) 0 0)).has b→w.heap.size≤b:=λb hb=>by simp only[Cz.has,Value.ownBlock,aq] at hb;omega
 refine⟨.slice (some ⟨w.heap.size,0,none⟩) 0 0,w.alloc (.cells #[] el),?_,Ev.push hs hF hk sM rfl rfl rfl hnew,SR.push hs hF hk sM ?_ hnew,hb,λb hb=>by simp only[Value.ownBlock,aq] at hb;omega⟩
 ·simp[execOp,Instr.buildSlice,run_underlying ht,hso,Instr.fill,newRow]
  have:Array.map (λx=>(default:Value)) (Array.range 0)= #[]:=by apply Array.toList_inj.mp;simp
  rw[this]
 ·refine⟨_,[],rfl,⟨sM, .inr ⟨w.heap.size,0, #[],rfl,Nat.zero_le _,heap_alloc_new w _,Nat.le_refl _,Nat.zero_le _,sM,sM⟩⟩,by simp[RAs],sM,λb hb=>?_⟩
  simp only[Value.ownBlock,aq] at hb
  exact hs.lt _ oM
section
variable{P:Program}{e:En}{l:List Oper}{rs:List AV}{base:Env}{sts:List Bool→List AO}{es:List Nat}
end
end Go.Sk
namespace Go.Sk
open Go.RowKit (Below)
theorem WL.st{P:Program}{e:En}{ops:Array Oper}{rest:List Oper}{env:Env}{st st':List AO}{R:Env→List AO→Prop}(hs:st=st')(h:WL P e ops rest env st' R):WL P e ops rest env st R:=hs▸h
structure SlV where
 a:Option Addr
 n:Nat
 c:Nat
abbrev SlV.v(x:SlV):Value:= .slice x.a x.n x.c
section
variable{P:Program}{env:Env}{st:List AO}{dst:Option Tmp}{ty:TypeId}{pos:String}{after:Array Edge}{guard:Option (Nat×Bool)}
theorem y_com{x:Operand}{T:TypeId}{k:IntKind}{p c:Int}(hx:opv env x=some (.d (.v (.int k p))))(hw:k.wrap (BitVec.ofInt k.bits (if k.signed then -1 else k.max)^^^BitVec.ofInt k.bits p).toNat=c):Yields P env st ⟨dst, .unOp .xor T x,ty,pos,after,guard⟩ (.d (.v (.int k c))):=λm φ a w _ he=>by
 subst hw
 exact⟨_,RAv,λw' _=>by simp[execOp,aN he hx,Op.unary,Op.intBits]⟩
theorem oT{T n:Nat}{bb:Bool}{x ix:Operand}{α:Type}{E:α→D}(tab:List α){kk:IntKind}{i:Int}{z:α}(hT:gd P T=some (n,1,bb))(hx:opv env x=some (.d (.pc (tab.map E))))(hi:opv env ix=some (.d (.v (.int kk i))))(hl:tab.length=n)(h:idx tab i=some z):
  Yields P env st ⟨dst, .indexAddr T x ix,ty,pos,after,guard⟩ (.d (.pc [E z])):=λm φ a w hs he=>by
 obtain⟨v,h1,h2⟩:=gB (dst:=dst) (ty:=ty) (pos:=pos) (after:=after) (guard:=guard) hT hx hi (ae h) (by rw[←hl];exact dw h) m φ a w hs he
 refine⟨v,?_,h2⟩
 simp only[RA,RD] at h1⊢
 obtain⟨b,off,g1,g2⟩:=h1
 refine⟨b,off,g1,?_⟩
 have hz:=bB h
 have hd:(tab.map E).drop (i.toNat*1)=E z::(tab.map E).drop (i.toNat+1):=by
  rw[Nat.mul_one]
  have hlt:i.toNat<(tab.map E).length:=by simpa using (giS.1 hz).1
  rw[List.drop_eq_getElem_cons hlt]
  congr 1
  have:=(giS.1 hz).2
  simp[this]
 rw[hd] at g2
 simp only[RPs] at g2⊢
 exact⟨g2.1,trivial⟩
end
end Go.Sk
namespace Go.Sk
open Go.RowKit (Below)
def AV.ok1S(st:List AO):AV→Bool
 | .os id ver=>match st[id]? with|some (.os _ _ v _)=>Nat.beq v ver|_=>false
 |x=>x.ok1
theorem nZ{m φ w st}(hs:SR m φ st w):∀{xs:List AV}{vs:List Value},RAs m φ w xs vs→xs.all (AV.ok1S st)=true→∀v∈vs,v.oneCell'=true
 |[],vs,h,_,v,hv=>by simp only[RAs] at h;subst h;simp at hv
 |x::xs,vs,h,hk,v,hv=>by
  simp only[RAs] at h
  obtain⟨c,cs,rfl,h2,h3⟩:=h
  simp only[List.all_cons,Bool.and_eq_true] at hk
  rcases List.mem_cons.1 hv with rfl|hv
  ·have key:∀y:AV,RA m φ w y v→y.ok1S st=true→v.oneCell'=true:=λy hy hky=>by
    cases y with
    |os id ver=>
     simp only[AV.ok1S] at hky
     split at hky
     ·rename_i T k v' es hi
      obtain rfl:=nbE hky
      exact(dc hi m φ w v hs hy).1
     ·cases hky
    |_=>exact kx hy hky
   exact key x h2 hk.1
  ·exact nZ hs h3 hk.2 v hv
section
variable{P:Program}{env:Env}{st:List AO}{dst:Option Tmp}{ty:TypeId}{pos:String}{after:Array Edge}{guard:Option (Nat×Bool)}
theorem rD{T:TypeId}{x y:Operand}{id off n:Nat}{T':TypeId}{cs:List AV}{r:AV}{rs:List AV}(hx:opv env x=some (.pt id off))(hs:st[id]? =some (.row T' cs))(hy:opv env y=some r)(hk:r.okS st=true)(hc:r.cells=rs)(hk1:rs.all (AV.ok1S st)=true)
  (hn:bz P T=some n)(hl:rs.length=n)(hlen:Nat.ble (off+n) cs.length=true):
  gA P env st ⟨dst, .store T x y,ty,pos,after,guard⟩ (.d (.v undef)) (st.set id (.row T' (cs.take off++rs++cs.drop (off+n)))):=λm φ a w hsr he=>by
 obtain⟨b,h1,h2⟩:=fP he hx
 obtain⟨b',hbb,_,vs,h3,h4⟩:=hsr.obj id _ _ hs h1
 simp only[Cz.blk.injEq] at hbb
 subst hbb
 obtain⟨us,g1,g2⟩:=lq hsr (aA he hy) hk
 rw[hc] at g2
 have hul:=aC g2
 have hvl:=aC h4
 have hle:=nbT hlen
 have hst:=run_storeCells_at P b off T' us 0 ⟨vs⟩ w h3 (by simp;omega) (nZ hsr g2 hk1)
 simp only[Nat.add_zero,hul,hl] at hst
 have hnew:RAs m φ w (cs.take off++rs++cs.drop (off+n)) (vs.take off++us++vs.drop (off+n)):=aD (aD (cC off h4) g2) (cD _ h4)
 obtain⟨k1,k2⟩:=lQ hsr hs h1 hnew
 refine⟨undef,_,m,φ, .inr ⟨?_,rfl⟩,k1,k2,RAv⟩
 have hsize:us.length=n:=oM
 simp[execOp,Instr.storeAt,Instr.sureAddr,h2,storeVar,g1,aT hn,hsize,hst]
end
section
variable{P:Program}{e:En}{ops:Array Oper}{rest:List Oper}{env:Env}{st:List AO}{R:Env→List AO→Prop}{ty:TypeId}{pos:String}{after:Array Edge}{d:Nat}{op:Op}{r:AV}{x:Operand}{k:Ko}
theorem WL.qn(hy:Yields P env st ⟨some d,op,ty,pos,after,none⟩ r)(hd:Nat.ble (d+1) e.n=true)(h:WL P e ops rest ((d,r)::env) st R):WL P e ops (⟨some d,op,ty,pos,after,none⟩::rest) env st R:=WL.q hy (Wt.none rfl) rfl hd h
theorem WL.ns{y:Code}(h:WC P e y k env st):WL P e ops [] env st (λenv' st'=>WE P e .normal (.seq y k) env' st'):=WL.nil (qD h)
theorem WL.qy{j t:Nat}{b:Bool}(hy:Yields P env st ⟨some d,op,ty,pos,after,some (j,b)⟩ r)(hj:(ops[j]?).bind (·.dst)=some t)(hx:env.get t=some (.d (.v (.bool b))))(hd:Nat.ble (d+1) e.n=true)(h:WL P e ops rest ((d,r)::env) st R):WL P e ops (⟨some d,op,ty,pos,after,some (j,b)⟩::rest) env st R:=WL.q hy (bu rfl hj hx) rfl hd h
theorem WQ.qn{n:Nat}{RQ:Env→Prop}(hy:Yields P env st ⟨some d,op,ty,pos,after,none⟩ r)(hd:Nat.ble (d+1) n=true)(h:WQ P n ops rest ((d,r)::env) st RQ):WQ P n ops (⟨some d,op,ty,pos,after,none⟩::rest) env st RQ:=WQ.q (ft hy) (Wt.none rfl) rfl hd h
theorem WQ.qy{n j t:Nat}{b:Bool}{RQ:Env→Prop}(hy:Yields P env st ⟨some d,op,ty,pos,after,some (j,b)⟩ r)(hj:(ops[j]?).bind (·.dst)=some t)(hx:env.get t=some (.d (.v (.bool b))))(hd:Nat.ble (d+1) n=true)(h:WQ P n ops rest ((d,r)::env) st RQ):WQ P n ops (⟨some d,op,ty,pos,after,some (j,b)⟩::rest) env st RQ:=WQ.q (ft hy) (bu rfl hj hx) rfl hd h
end
end Go.Sk
namespace Go.Sk
section
variable{e:En}{env:Env}{st:List AO}
theorem qa(t T k:Nat)(ht:env.get t=some (.d (.v (.slice none 0 0)))):Gh e env st ((t, .os st.length 0)::env) (st++ [.os T k 0 []]):=λ_m φ _a _w hi=>
 let ⟨m',hi'⟩:=hi.nil_os (T:=T) (k:=k) ht
 ⟨m',φ,hi'⟩
theorem bQ{α:Type}{l:List α}{i:Int}{x:α}(h:idx l i=some x):i.toNat<l.length:=(giS.1 (bB h)).1
theorem fZ{α:Type}{E:α→List D}{L0:List (List α)}{x':List α}{j:Nat}(oid fid nid:Nat){To vo T k ver v:Nat}(ho:st[oid]? =some (.os To 1 vo ((bg fid ver L0.length).set j [.os nid v])))(hf:st[fid]? =some (.fam T k ver (bc E (L0.set j []))))(hn:st[nid]? =some (.os T k v (x'.map (aF E))))(hne:Nat.beq oid fid=false)(hne2:Nat.beq oid nid=false)(hj:j<L0.length):
  Gh e env st env (((st.set fid (.fam T k (ver+1) (bc E (L0.set j x')))).set nid .dead).set oid (.os To 1 vo (bg fid (ver+1) (L0.set j x').length))):=
 j8 (_x:=[]) oid fid nid (L0.set j x') (by rw[List.length_set];exact ho) hf hn hne hne2 (by simpa using hj) (by rw[List.set_set])
theorem np{n fid ver:Nat}(h:Nat.ble (fid+1) n=true):∀l:List Nat,AV.lts n ((l.map λi=> [AV.osf fid i ver]).flatten)=true
 |[]=>rfl
 |i::l=>by
  simp only[List.map_cons,List.flatten_cons,List.cons_append,List.nil_append,AV.lts,AV.lt,h,np h l,Bool.and_self]
theorem ui(n T k v fid ver m:Nat)(h:Nat.ble (fid+1) n=true):AO.lt n (.os T k v (bg fid ver m))=true:=np h _
theorem rf{α:Type}(n T k v:Nat)(E:α→List D):∀L:List (List α),AO.lt n (.fam T k v (bc E L))=true
 |[]=>rfl
 |l::L=>by
  have h1:=rb n T k v E l
  have h2:=rf n T k v E L
  simp only[AO.lt,bc,List.map_cons,List.flatten_cons,List.flatten_append,uh,Bool.and_eq_true] at*
  exact⟨h1,h2⟩
end
end Go.Sk
namespace Go.Sk
open Go.RowKit (Below)
def Rd(e:En)(id:Nat):Prop:=∃l,e.rd=some l∧e.m[id]? =some (.blk l)
theorem nw:∀(ps:List Nat)(vals:List Value)(tm:Array Value),ps.Nodup→(∀p∈ps,p<tm.size)→
  ((List.zip ps vals).foldl (λtmps (x:Nat×Value)=>tmps.setIfInBounds x.1 x.2) tm).size=tm.size∧
  (∀(i p:Nat)(v:Value),ps[i]? =some p→vals[i]? =some v→((List.zip ps vals).foldl (λtmps (x:Nat×Value)=>tmps.setIfInBounds x.1 x.2) tm)[p]? =some v)∧
  (∀t,t∉ps→((List.zip ps vals).foldl (λtmps (x:Nat×Value)=>tmps.setIfInBounds x.1 x.2) tm)[t]? =tm[t]?)
 |[],vals,tm,_,_=>sM
 |p::ps,[],tm,_,_=>sM
 |p::ps,v::vals,tm,hn,hlt=>by
  obtain⟨n1,n2⟩:=List.nodup_cons.1 hn
  simp only[List.zip_cons_cons,List.foldl_cons]
  obtain⟨h1,h2,h3⟩:=nw ps vals (tm.setIfInBounds p v) n2 (λq hq=>by simpa using hlt q (List.mem_cons_of_mem _ hq))
  refine⟨by rw[h1];simp,λi q u hi hv=>?_,λt ht=>?_⟩
  ·cases i with
   |zero=>
    simp only[List.getElem?_cons_zero,aq] at hi hv
    subst hi;subst hv
    rw[h3 _ n1]
    simp[hlt p List.mem_cons_self]
   |succ i=>exact h2 i q u (by simpa using hi) (by simpa using hv)
  ·have h4:t≠p:=λh=>ht (by rw[h];exact List.mem_cons_self)
   rw[h3 t (λh=>ht (List.mem_cons_of_mem _ h)),Array.getElem?_setIfInBounds_ne (Ne.symm h4)]
theorem lv:∀{ts:List Nat}{vs:List AV}{t:Nat}{x:AV},Env.get (List.zip ts vs) t=some x→∃i:Nat,ts[i]? =some t∧vs[i]? =some x
 |[],vs,t,x,h=>by simp[Env.get] at h
 |k::ts,[],t,x,h=>by simp[Env.get] at h
 |k::ts,v::vs,t,x,h=>by
  simp only[List.zip_cons_cons] at h
  rw[aM] at h
  split at h
  ·rename_i ht
   simp only[aq] at h
   subst h;subst ht
   exact⟨0,sM,sM⟩
  ·obtain⟨i,h1,h2⟩:=lv h
   exact⟨i+1,by simpa using h1,by simpa using h2⟩
theorem get_append{a b:Env}{t:Nat}:Env.get (a++b) t=match Env.get a t with|some x=>some x|none=>Env.get b t:=by
 induction a with
 |nil=>simp[Env.get]
 |cons p a ih=>
  obtain⟨k,v⟩:=p
  rw[List.cons_append,aM,aM]
  split
  ·rfl
  ·exact ih
theorem mv:∀{ts:List Nat}{vs:List AV}{t:Nat},ts.length=vs.length→Env.get (List.zip ts vs) t=none→t∉ts
 |[],vs,t,_,_=>sM
 |k::ts,[],t,hl,h=>by simp at hl
 |k::ts,v::vs,t,hl,h=>by
  simp only[List.zip_cons_cons] at h
  rw[aM] at h
  split at h
  ·cases h
  ·rename_i hk
   have:=mv (by simpa using hl) h
   simp[hk,this]
theorem qQ{α:Type}{m:List α}{i:Nat}{c:α}(h:m[i]? =some c):m.set i c=m:=by
 apply List.ext_getElem?
 intro j
 by_cases hj:j=i
 ·subst hj;rw[List.getElem?_set_self (giS.1 h).1,h]
 ·rw[List.getElem?_set_ne (Ne.symm hj)]
theorem oA{m:List Cz}{φ:Nat→Nat}{st:List AO}{w:World}{id l:Nat}{o:AO}{r r':Loop}(hs:SR m φ st w)(hi:st[id]? =some o)(hl:o.live=true)(hc:m[id]? =some (.blk l))(hh:w.heap[l]? =some (.loop r)){o':AO}(hlv:o'.live=true∨(∀b,(Cz.blk l).has b→(Cz.blk l).has b))
  (ho:∀w',w'.heap[l]? =some (.loop r')→Fz φ w φ w'→OR m φ w' o' (.blk l)):
  Ev m φ w m φ (w.putObj l (.loop r'))∧SR m φ (st.set id o') (w.putObj l (.loop r')):=by
 have hlt:=cK hh
 have hF:Fz φ w φ (w.putObj l (.loop r')):=λb off c h1 h2=>by
  refine⟨h1,?_⟩
  have hb:b≠l:=λh=>by subst h;simp[World.cell?,hh] at h2
  rw[aP (bW hb)];exact h2
 have hm:=qQ hc
 have:=gk (m:=m) (φ:=φ) (φ':=φ) (st:=st) (w:=w) (w':=w.putObj l (.loop r')) (o':=o') (c':= .blk l) hs hi hl hc (Cz.le_refl _) rfl rfl rfl sM (λb _ hb=>⟨bW λh=>hb h.symm,rfl⟩) hF (λb hb=>hs.lt b (by simpa using hb)) (λb h=> .inl h)
  (by rw[hm];exact ho _ (World.putObj_heap_same hlt) hF) hlv
 rwa [hm] at this
section
variable{P:Program}{e:En}{ops:Array Oper}{rest:List Oper}{o:Oper}{env:Env}{st:List AO}{R:Env→List AO→Prop}{d:Nat}{k:Ko}
theorem kF{m φ w a}{c:Call}{x:Operand}{id l:Nat}{asz:List AV}{r:Loop}(h:EnvOk m φ w env a)(hop:o.op= .call c)(hx:c.callee= .value x)(hf:opv env x=some (.yl id))(has:cP env c.args.toList=some asz)
  (hm:m[id]? =some (.blk l))(hh:w.heap[l]? =some (.loop r))(hp:asz.length=r.params.size):
  ∃vs,RAs m φ w asz vs∧(execOp a.eval o).run P w= .ok (.round l r.fn ((r.params.zip ⟨vs⟩).foldl (λtmps (t,a)=>tmps.setIfInBounds t a) r.tmps) r.assign r.body) w:=by
 have hv:=aA h hf
 simp only[RA] at hv
 obtain⟨b,h1,h2⟩:=hv
 rw[hm] at h1
 simp only[aq,Cz.blk.injEq] at h1
 subst h1
 have h4:=gq h has
 refine⟨c.args.toList.map a.eval,h4,?_⟩
 have e1:(#[]++c.args.map a.eval:Array Value)=⟨c.args.toList.map a.eval⟩:=by
  apply Array.toList_inj.mp;simp
 have hl:=aC h4
 simp only[execOp,hop,resolve,hx,h2,Deferred.ofValue,Sem.run_bind,Sem.run_pure,Result.andThen_ok,invoke,e1]
 exact run_yield hh (by simpa[hl] using hp)
theorem qj{c:Call}{x:Operand}{id:Nat}{asz:List AV}{s:LpS}{vs:List AV}{pd:Option Code}(Q:AV→List AO→Prop)(hop:o.op= .call c)(hx:c.callee= .value x)(hf:opv env x=some (.yl id))(has:cP env c.args.toList=some asz)
  (hs:st[id]? =some (.lp s vs .ready pd))(hp:Nat.beq asz.length s.ps.length=true)(hps:gS s.ps=true)(hpn:(s.ps.all λp=>Nat.blt p s.n)=true)(_hts:Nat.beq s.ts.length vs.length=true)
  (hr:∀e':En,e'.n=s.n→Rd e' id→e'.m.length=st.length→WC P e' s.asg (.asg s.body (.rend Q)) (List.zip s.ps asz++List.zip s.ts vs) st)
  (hw:Wt ops env o true)(ho:o.dst=some d)(hd:Nat.ble (d+1) e.n=true)(h:∀r st',Q r st'→WL P e ops rest ((d,r)::env) st' R):WL P e ops (o::rest) env st R:=λm φ a w hi=>by
 have hidl:=(giS.1 hs).1
 obtain⟨c0,hc0⟩:∃c,m[id]? =some c:=⟨_,geG (by rw[hi.sr.len];exact hidl)⟩
 obtain⟨b,rfl,h0,r,us,g1,⟨g2,g3,g4,g5,g6,g7,g8⟩,g9⟩:=hi.sr.obj id _ c0 hs hc0
 have hp':=nbE hp
 obtain⟨vals,k1,k2⟩:=kF (P:=P) hi.env hop hx hf has hc0 g1 (by rw[hp',g3];simp)
 unfold cN
 rw[if_pos (hw _ _ _ _ hi.env)]
 refine .inr ⟨b,r.fn,_,r.assign,r.body,w,k2,?_⟩
 have hvl:=aC k1
 have hz:(r.params.zip (⟨vals⟩:Array Value)).foldl (λtmps (t,a)=>tmps.setIfInBounds t a) r.tmps=(List.zip s.ps vals).foldl (λtmps (x:Nat×Value)=>tmps.setIfInBounds x.1 x.2) r.tmps:=by
  rw[←Array.foldl_toList,Array.toList_zip,g3]
 obtain⟨f1,f2,f3⟩:=nw s.ps vals r.tmps (eE hps) (λp hp=>by
  have:=List.all_eq_true.1 hpn p hp
  rw[g2];simpa[Nat.blt_eq] using this)
 rw[hz]
 let e':En:=⟨m,φ,w,s.n,some b,none⟩
 have hinv:Inv e' m φ (List.zip s.ps asz++List.zip s.ts vs) st { tmps:=(List.zip s.ps vals).foldl (λtmps (x:Nat×Value)=>tmps.setIfInBounds x.1 x.2) r.tmps,defers:=[] } w:=by
  refine⟨hi.sr,Ev.refl m φ w,⟨λt y hy=>?_,hi.sr.gl⟩,by rw[f1];exact g2,trivial⟩
  rw[get_append] at hy
  cases hz:Env.get (List.zip s.ps asz) t with
  |some z=>
   rw[hz] at hy
   simp only[aq] at hy
   subst hy
   obtain⟨i,q1,q2⟩:=lv hz
   obtain⟨v,q3,q4⟩:=ce k1 q2
   exact⟨v,f2 i t v q1 q3,q4⟩
  |none=>
   rw[hz] at hy
   have hnt:=mv (by rw[hp']) hz
   obtain⟨i,q1,q2⟩:=lv hy
   obtain⟨v,q3,q4⟩:=ce g9 q2
   exact⟨v,by rw[f3 t hnt];exact g8 i t v q1 q3,q4⟩
 have hwc:=hr e' rfl ⟨b,rfl,hc0⟩ hi.sr.len m φ _ w hinv
 have hround:RoundIn Fence.wide 0 P b r.fn ((List.zip s.ps vals).foldl (λtmps (x:Nat×Value)=>tmps.setIfInBounds x.1 x.2) r.tmps) r.assign r.body w (cf e' Q):=by
  refine roundIn_of_wpIn trivial ?_
  rw[g4,g5]
  exact hwc
 refine hround.mono ?_
 rintro en w'' ⟨v,r',st',m',φ',rfl,hQ,hev,hsr,hra⟩
 refine⟨v,rfl,?_⟩
 rw[ho]
 exact h r' st' hQ m' φ' _ w'' (hi.ev_put hev hsr (nbT hd) hra)
theorem iD{body:Code}{id:Nat}{s:LpS}{vs:List AV}{pd:Option Code}(hrd:Rd e id)(hs:st[id]? =some (.lp s vs .ready pd))(h:WC P e body k env (st.set id (.lp s vs .busy pd))):WE P e .normal (.asg body k) env st:=λm φ a w hi=>by
 obtain⟨l,h1,h2⟩:=hrd
 have hc:=hi.ev.pre.blk h2
 obtain⟨b,hb,h0,r,us,g1,g2,g3⟩:=hi.sr.obj id _ _ hs hc
 simp only[Cz.blk.injEq] at hb
 subst hb
 obtain⟨q1,q2⟩:=oA (r':={ r with state:= .busy }) (o':= .lp s vs .busy pd) hi.sr hs rfl hc g1 (.inl rfl) (λw' e1 hF=>⟨l,rfl,h0,_,us,e1,⟨g2.1,g2.2.1,g2.2.2.1,g2.2.2.2.1,rfl,g2.2.2.2.2.2.1,g2.2.2.2.2.2.2⟩,RAs.mono (Pre.refl m) hF _ _ g3⟩)
 have:=h m φ a _ (hi.go q1 q2)
 have hst:r.state= .ready:=g2.2.2.2.2.1
 show(match e.rd with|some l=>∃w₂,(Instr.beginRound l).run P w= .ok () w₂∧body.wpIn (EF e.rd) 0 P (k.den P e) a w₂|none=>False)
 rw[h1]
 exact⟨_,run_beginRound g1 hst,by rw[h1] at this;exact this⟩
theorem m9{Q:AV→List AO→Prop}{id:Nat}{s:LpS}{vs:List AV}{pd:Option Code}(jump:Option Code)(hrd:Rd e id)(hs:st[id]? =some (.lp s vs .busy pd))
  (hQ:Q (.d (.v (.bool jump.isNone))) (st.set id (.lp s vs (if jump.isNone then .ready else .done) jump))){m φ a w}(hi:Inv e m φ env st a w):
  ∃l,e.rd=some l∧∃v w',(Instr.endRound l jump).run P w= .ok v w'∧cf e Q (.returned v) w':=by
 obtain⟨l,h1,h2⟩:=hrd
 have hc:=hi.ev.pre.blk h2
 obtain⟨b,hb,h0,r,us,g1,g2,g3⟩:=hi.sr.obj id _ _ hs hc
 simp only[Cz.blk.injEq] at hb
 subst hb
 obtain⟨q1,q2⟩:=oA (r':={ r with state:=if jump.isNone then .ready else .done,pending:=jump }) (o':= .lp s vs (if jump.isNone then .ready else .done) jump) hi.sr hs rfl hc g1 (.inl rfl) (λw' e1 hF=>⟨l,rfl,h0,_,us,e1,⟨g2.1,g2.2.1,g2.2.2.1,g2.2.2.2.1,rfl,rfl,g2.2.2.2.2.2.2⟩,RAs.mono (Pre.refl m) hF _ _ g3⟩)
 exact⟨l,h1,_,_,run_endRound jump g1,_,_,_,m,φ,rfl,hQ,hi.ev.trans q1,q2,by simp[RA,RD]⟩
theorem gi{Q:AV→List AO→Prop}{id:Nat}{s:LpS}{vs:List AV}{pd:Option Code}(hrd:Rd e id)(hs:st[id]? =some (.lp s vs .busy pd))
  (hQ:Q (.d (.v (.bool true))) (st.set id (.lp s vs .ready none))):WE P e .normal (.rend Q) env st:=λm φ a w hi=>by
 obtain⟨l,h1,h2⟩:=m9 (P:=P) none hrd hs hQ hi
 show(match e.rd with|some l=>roundPost P l (cf e Q)|none=>λ_ _ _=>False) .normal a w
 rw[h1];exact h2
theorem dj{Q:AV→List AO→Prop}{id:Nat}{s:LpS}{vs:List AV}{pd:Option Code}(hrd:Rd e id)(hs:st[id]? =some (.lp s vs .busy pd))
  (hQ:Q (.d (.v (.bool false))) (st.set id (.lp s vs .done (some .ret)))):WE P e .ret (.rend Q) env st:=λm φ a w hi=>by
 obtain⟨l,h1,h2⟩:=m9 (P:=P) (some .ret) hrd hs hQ hi
 show(match e.rd with|some l=>roundPost P l (cf e Q)|none=>λ_ _ _=>False) .ret a w
 rw[h1];exact h2
def nT(P:Program)(e:En)(k:Ko)(env:Env)(id:Nat)(st':List AO):Prop:=
 ∃st2 s vs stt pend,SLe st' st2∧st2[id]? =some (.lp s vs stt pend)∧stt≠ .busy∧
  match pend with
  |none=>WE P e .normal k env (st2.set id .dead)
  |some .ret=>WE P e .ret k env (st2.set id .dead)
  |some (.exit i)=>WE P e (.exit i) k env (st2.set id .dead)
  |_=>False
theorem mP{m φ w}{a:Act}(he:EnvOk m φ w env a):∀{ts:List Nat}{vs:List AV},cP env (ts.map .tmp)=some vs→∃us,RAs m φ w vs us∧∀(i t:Nat)(u:Value),ts[i]? =some t→us[i]? =some u→a.tmps[t]? =some u
 |[],vs,h=>by simp only[List.map_nil,cP,aq] at h;subst h;exact⟨[],bZ,λi t u h=>by simp at h⟩
 |t::ts,vs,h=>by
  simp only[List.map_cons,cP] at h
  split at h
  ·rename_i y ys h1 h2
   simp only[aq] at h
   subst h
   obtain⟨us,g1,g2⟩:=mP he h2
   obtain⟨v,q1,q2⟩:=he.get t y h1
   refine⟨v::us,aK q2 g1,λi t' u hi hu=>?_⟩
   cases i with
   |zero=>
    simp only[List.getElem?_cons_zero,aq] at hi hu
    subst hi;subst hu;exact q1
   |succ i=>exact g2 i t' u (by simpa using hi) (by simpa using hu)
  ·cases h
theorem kG{m φ w a}{f:FuncId}{g:Operand}{first caps:List AV}{l:Nat}(h:EnvOk m φ w env a)(hf:opv env g=some (.fn (.func f) first caps))(hc:d8 P f):
  ∃fs cs,RAs m φ w first fs∧RAs m φ w caps cs∧∃d:Deferred,(∀w',(resolve a.eval (rangeCall g l) 0).run P w'= .ok d w')∧∀w',(invoke d.target d.args).run P w'= .ok (.enter f ⟨fs++ .func (.yield l) #[] #[]::cs⟩) w':=by
 have hv:=aA h hf
 simp only[RA] at hv
 obtain⟨fs,cs,h1,h2,h3⟩:=hv
 obtain⟨fn,g1,g2,g3⟩:=hc
 refine⟨fs,cs,h2,h3,⟨.fn (.func f) ⟨cs⟩,⟨fs⟩++ #[.func (.yield l) #[] #[]]⟩,λw'=>?_,λw'=>?_⟩
 ·have e0:(a.eval (.const (.func (.yield l) #[] #[])))= .func (.yield l) #[] #[]:=rfl
  simp only[resolve,h1,Deferred.ofValue,Sem.run_pure,List.map_toArray,List.map_cons,List.map_nil,e0]
 ·have e1:(⟨fs⟩++ #[.func (.yield l) #[] #[]]++⟨cs⟩:Array Value)=⟨fs++ .func (.yield l) #[] #[]::cs⟩:=by
   apply Array.toList_inj.mp;simp
  simp only[invoke,callFunc,Sem.run_bind,run_program,g1,g2,Bool.false_eq_true,ite_false,g3,Sem.run_pure,Result.andThen_ok,e1]
theorem pS{g:Operand}{ps:Array Tmp}{asg body:Code}{f:FuncId}{first caps:List AV}(ts:List Nat){vs:List AV}(Q:AV→List AO→Prop)(hrd:e.rd=none)(hg:opv env g=some (.fn (.func f) first caps))(hts:cP env (ts.map .tmp)=some vs)
  (hc:Ctr P f (first++ .yl st.length::caps) (st++ [.lp ⟨e.n,ts,ps.toList,asg,body⟩ vs .ready none]) Q)
  (h:∀r st',Q r st'→nT P e k env st.length st')(hnd:e.ds=none):WC P e (.rangeFunc g ps asg body) k env st:=λm φ a w hi=>by
 refine wpIn_rangeFunc λfn _=>?_
 obtain⟨fs,cs,h1,h2,d,h3,h4⟩:=kG (P:=P) (l:=w.heap.size+1) hi.env hg hc.1
 rw[hrd]
 refine⟨_,_,_,d,_,f,_,_,run_enterLoop_outer fn a.tmps ps asg body,h3 _,λ_ _=>trivial,h4 _,λhx=>by simp[EF] at hx,gT.2 ?_⟩
 obtain⟨us,u1,u2⟩:=mP hi.env hts
 let L:Loop:={ state:= .ready,pending:=none,fn,tmps:=a.tmps,params:=ps,assign:=asg,body,defers:=w.heap.size }
 let w1:World:=(w.alloc (.deferred (some []))).alloc (.loop L)
 have hs1:(w.alloc (.deferred (some []))).heap.size=w.heap.size+1:=World.size_alloc _ _
 have hsz1:w1.heap.size=w.heap.size+2:=by show((w.alloc _).alloc _).heap.size=_;rw[World.size_alloc,hs1]
 have hk1:∀b,b<w.heap.size→w1.heap[b]? =w.heap[b]? :=λb hb=>by
  show((w.alloc _).alloc _).heap[b]? =_
  rw[bt (by rw[hs1];omega),bt hb]
 have hl1:w1.heap[w.heap.size+1]? =some (.loop L):=by
  have:=World.alloc_heap_new (w.alloc (.deferred (some []))) (.loop L)
  rwa [hs1] at this
 have hd1:w1.heap[w.heap.size]? =some (.deferred (some [])):=by
  show((w.alloc _).alloc _).heap[w.heap.size]? =_
  rw[bt (by rw[hs1];omega)];exact World.alloc_heap_new w _
 have hF1:Fz φ w φ w1:=λb off c q1 q2=>⟨q1,by rw[aP (hk1 b (bP hi.sr q1))];exact q2⟩
 let m1:=m++ [Cz.blk (w.heap.size+1)]
 have hpre:Pre m m1:=Pre.append m _
 have hml:m.length=st.length:=hi.sr.len
 have hsr1:SR m1 φ (st++ [.lp ⟨e.n,ts,ps.toList,asg,body⟩ vs .ready none]) w1:=
  hi.sr.push hF1 hk1 oM ⟨_,rfl,hi.sr.lt _ oM,L,us,hl1,⟨hi.sz,by simp[L],rfl,rfl,rfl,rfl,u2⟩,RAs.mono hpre hF1 _ _ u1⟩ (λb hb=>by simp only[Cz.has] at hb;omega)
 have hev1:Ev m φ w m1 φ w1:=by
  refine⟨hpre,?_,rfl,rfl,rfl,oM,λb hb _=>⟨hk1 b hb,rfl⟩,hF1⟩
  rintro b ⟨i,c,q1,q2⟩
  rw[cE] at q1
  split at q1
  ·exact .inl ⟨i,c,q1,q2⟩
  ·split at q1
   ·simp only[aq] at q1
    subst q1
    simp only[Cz.has] at q2
    exact .inr oM
   ·cases q1
 have hra:RAs m1 φ w1 (first++ .yl st.length::caps) (fs++ .func (.yield (w.heap.size+1)) #[] #[]::cs):=by
  refine aD (RAs.mono hpre hF1 _ _ h1) (aK ?_ (RAs.mono hpre hF1 _ _ h2))
  simp only[RA]
  exact⟨_,by rw[←hml];simp[m1],rfl⟩
 refine(hc.2 m1 φ w1 _ hsr1 hra).mono ?_
 rintro en w' ⟨v,r,st',m',φ',rfl,hQ,hev,hsr,_⟩
 obtain⟨st2,s,vs2,stt,pend,e1,e2,e3,e4⟩:=h r st' hQ
 have hsr2:=hsr.weak e1
 have hm1:m1[st.length]? =some (.blk (w.heap.size+1)):=by rw[←hml];simp[m1]
 have hcm:=hev.pre.blk hm1
 obtain⟨b,hb,p0,r2,us2,p1,p2,p3⟩:=hsr2.obj st.length _ _ e2 hcm
 simp only[Cz.blk.injEq] at hb
 subst hb
 obtain⟨q1,q2⟩:=oA (r':={ r2 with state:= .exhausted }) (o':= .dead) hsr2 e2 rfl hcm p1 (.inr λ_ h=>h) (λw' _ _=>trivial)
 have hst:r2.state=stt:=p2.2.2.2.2.1
 have hpd:r2.pending=pend:=p2.2.2.2.2.2.1
 refine⟨_,_,run_endLoop p1 (by rw[hst];exact e3),?_⟩
 have hmk:Marks e.w.heap.size m w a.defers:=by have:=hi.df;rw[hnd] at this;exact this
 have hmark:Marks e.w.heap.size m1 w1 ({ target:= .collected w.heap.size,args:= #[] }::a.defers):=by
  refine⟨⟨w.heap.size,rfl,hd1,?_,hi.ev.size,?_⟩,hmk.ev hev1⟩
  ·rintro⟨i,c,q1,q2⟩
   rw[cE] at q1
   split at q1
   ·exact absurd (hi.sr.nb _ ⟨i,c,q1,q2⟩) (Nat.lt_irrefl _)
   ·split at q1
    ·simp only[aq] at q1
     subst q1
     simp only[Cz.has] at q2
     omega
    ·cases q1
  ·have:∀(ds:List Deferred),Marks e.w.heap.size m w ds→∀d'∈ds,d'.target≠ .collected w.heap.size:=by
    intro ds
    induction ds with
    |nil=>intro _ d' hd';cases hd'
    |cons d0 ds ih=>
     rintro⟨⟨r0,t1,t2,_⟩,hds⟩ d' hd'
     rcases List.mem_cons.1 hd' with rfl|hd'
     ·rw[t1]
      intro hh
      simp only[Target.collected.injEq] at hh
      have:=cK t2
      omega
     ·exact ih hds d' hd'
   exact this _ hmk
 have hinv:Inv e m' φ' env (st2.set st.length .dead) { a with defers:=[{ target:= .collected w.heap.size,args:= #[] }]++a.defers } (w'.putObj (w.heap.size+1) (.loop { r2 with state:= .exhausted })):=by
  refine⟨q2,((hi.ev.trans hev1).trans hev).trans q1,?_,hi.sz,(by rw[hnd];exact(hmark.ev hev).ev q1)⟩
  have h5:=((hi.env.mono hpre hF1).mono hev.pre hev.fz).mono q1.pre q1.fz
  exact⟨h5.get,h5.gl⟩
 generalize hw4:(w'.putObj (w.heap.size+1) (.loop { r2 with state:= .exhausted }))=w4 at hinv⊢
 rw[hpd]
 cases pend with
 |none=>exact e4 m' φ' _ _ hinv
 |some c=>
  cases c with
  |ret=>exact wpIn_ret (e4 m' φ' _ _ hinv)
  |exit i=>exact wpIn_exit (e4 m' φ' _ _ hinv)
  |_=>exact e4.elim
theorem Le.tu{xs ys:List AV}(h:Les xs ys):Le (.tu xs) (.tu ys):=λ_ _ _ _ hh=>by
 simp only[RA] at hh⊢
 obtain⟨cs,h1,h2⟩:=hh
 exact⟨cs,h1,h.ras h2⟩
theorem WL.weak{l:List Oper}{st':List AO}(h:SLe st st')(hc:WL P e ops l env st' R):WL P e ops l env st R:=λm φ a w hi=>hc m φ a w (hi.weak h)
theorem qE{g:Operand}{ps:Array Tmp}{asg body:Code}{f:FuncId}{first caps us:List AV}(ts:List Nat){vs:List AV}(id:Nat)(Q:LpS→AV→List AO→Prop)(hrd:e.rd=none)(hg:opv env g=some (.fn (.func f) first caps))(hts:cP env (ts.map .tmp)=some vs)(hid:Nat.beq st.length id=true)(has:first++ .yl id::caps=us)
  (hc:∀s,s=LpS.mk e.n ts ps.toList asg body→Ctr P f us (st++ [.lp s vs .ready none]) (Q s))
  (h:∀s r st',Q s r st'→nT P e k env id st')(hnd:e.ds=none:=by rfl):WC P e (.rangeFunc g ps asg body) k env st:=by
 obtain rfl:=nbE hid
 subst has
 exact pS ts (Q _) hrd hg hts (hc _ rfl) (h _) hnd
theorem WL.yield{c:Call}{x:Operand}{id n:Nat}{asz:List AV}{s:LpS}{vs:List AV}{pd:Option Code}{ts ps:List Nat}{asg body:Code}{env0:Env}(Q:AV→List AO→Prop)(hsd:s=⟨n,ts,ps,asg,body⟩)(hop:o.op= .call c)(hx:c.callee= .value x)(hf:opv env x=some (.yl id))(has:cP env c.args.toList=some asz)
  (hs:st[id]? =some (.lp s vs .ready pd))(hp:(Nat.beq asz.length ps.length&&gS ps&&(ps.all λp=>Nat.blt p n)&&Nat.beq ts.length vs.length)=true)(he:List.zip ps asz++List.zip ts vs=env0)
  (hr:∀e':En,e'.n=n→Rd e' id→e'.m.length=st.length→WC P e' asg (.asg body (.rend Q)) env0 st)
  (hw:Wt ops env o true)(ho:o.dst=some d)(hd:Nat.ble (d+1) e.n=true)(h:∀r st',Q r st'→WL P e ops rest ((d,r)::env) st' R):WL P e ops (o::rest) env st R:=by
 subst hsd
 subst he
 simp only[Bool.and_eq_true] at hp
 exact qj Q hop hx hf has hs hp.1.1.1 hp.1.1.2 hp.1.2 hp.2 hr hw ho hd h
theorem WL.inl{f:FuncId}{c:Call}{x:Operand}{first caps asz us:List AV}(Q:AV→List AO→Prop)(hop:o.op= .call c)(hx:c.callee= .value x)
  (hf:opv env x=some (.fn (.func f) first caps))(has:cP env c.args.toList=some asz)(he:first++asz++caps=us)(hc:Ctr P f us st Q)
  (hw:Wt ops env o true)(ho:o.dst=some d)(hd:Nat.ble (d+1) e.n=true)(h:∀r st',Q r st'→WL P e ops rest ((d,r)::env) st' R):WL P e ops (o::rest) env st R:=by
 subst he
 exact WL.call hop hx hf has hc (Les.refl _) hw ho hd h
end
end Go.Sk
namespace Go.Sk
open Go.RowKit (Below)
def mM(n:Nat)(f:Nat→D):List D:=(List.range n).map f
def bf(n:Nat)(f:Nat→AV):List AV:=(List.range n).map f
def c8{α:Type}(F:Nat→α)(i:Nat)(v:α):Nat→α:=λj=>bif Nat.beq j i then v else F j
def bh(n:Nat)(i:Int):Bool:=decide (0≤i)&&Nat.blt i.toNat n
theorem eg{n:Nat}{i:Int}(h:bh n i=true):0≤i∧i.toNat<n:=by
 simpa[bh] using h
theorem bx{n:Nat}{i:Int}(h:bh n i=true):0≤i:=(eg h).1
theorem bw{n:Nat}{i:Int}(h:bh n i=true):i<n:=by
 have:=eg h;omega
theorem qJ{n:Nat}{ps:List AV}{f:Nat→AV}{i:Int}(h:ps=bf n f)(hg:bh n i=true):ps[i.toNat*1]? =some (f i.toNat):=by
 subst h
 have:=(eg hg).2
 simp[bf,this]
theorem mL{α β:Type}(A:α→β)(F:Nat→α)(i j:Nat)(v:α):A (c8 F i v j)=if j=i then A v else A (F j):=by
 unfold c8
 by_cases h:j=i
 ·subst h;simp
 ·have:Nat.beq j i=false:=by
   cases hb:Nat.beq j i with
   |false=>rfl
   |true=>exact absurd (nbE hb) h
  simp[this,h]
theorem qI{α:Type}(A:α→AV)(n:Nat)(F:Nat→α)(i:Nat)(v:α):(bf n λj=>A (F j)).set i (A v)=bf n λj=>A (c8 F i v j):=by
 apply List.ext_getElem?
 intro j
 by_cases hj:j<n
 ·by_cases h:j=i
  ·subst h;simp[bf,hj,mL]
  ·rw[bf,List.getElem?_set_ne (Ne.symm h),bf,List.getElem?_map,List.getElem?_map]
   simp[hj,mL,h]
 ·simp[bf,hj]
theorem kC{α:Type}(l:List α)(i:Nat)(x:α)(h:i<l.length):l.take i++ [x]++l.drop (i+1)=l.set i x:=by
 rw[List.set_eq_take_append_cons_drop,if_pos h,List.append_assoc];rfl
section
variable{P:Program}{e:En}{ops:Array Oper}{env:Env}{st:List AO}{R:Env→List AO→Prop}{dst:Option Tmp}{ty:TypeId}{pos:String}{after:Array Edge}{guard:Option (Nat×Bool)}
theorem sq{cs:List AV}(off n:Nat){f:Nat→AV}{i:Int}(h:(cs.drop off).take n=bf n f)(hg:bh n i=true):cs[off+i.toNat*1]? =some (f i.toNat):=by
 have h2:=qJ h hg
 have h3:=(eg hg).2
 rw[List.getElem?_take,if_pos oM,List.getElem?_drop] at h2
 exact h2
theorem bJ{T:TypeId}{x:Operand}{id off n:Nat}{T':TypeId}{cs:List AV}(f:Nat→AV){i:Int}(hx:opv env x=some (.pt id (off+i.toNat*1)))(hs:st[id]? =some (.row T' cs))(hT:aX P T=some false)(h:(cs.drop off).take n=bf n f)(hg:bh n i=true):
  Yields P env st ⟨dst, .load T x,ty,pos,after,guard⟩ (f i.toNat):=qt hx hs hT (sq off n h hg)
theorem eV{α:Type}{T:TypeId}{x y:Operand}{id off n:Nat}{T':TypeId}{cs cs':List AV}(A:α→AV)(F:Nat→α)(v:α){i:Int}(hx:opv env x=some (.pt id (off+i.toNat*1)))(hs:st[id]? =some (.row T' cs))(hy:opv env y=some (A v))
  (hone:∀m φ w u,SR m φ st w→RA m φ w (A v) u→u.oneCell'=true∧u.cells= #[u])(hn:bz P T=some 1)(hlen:Nat.ble (off+n) cs.length=true)(h:cs=cs.take off++(bf n (λj=>A (F j))++cs.drop (off+n)))(hg:bh n i=true)
  (hc:cs'=cs.take off++(bf n (λj=>A (c8 F i.toNat v j))++cs.drop (off+n))):
  gA P env st ⟨dst, .store T x y,ty,pos,after,guard⟩ (.d (.v undef)) (st.set id (.row T' cs')):=by
 have h3:=(eg hg).2
 have hle:=nbT hlen
 have:=ct (P:=P) (dst:=dst) (ty:=ty) (pos:=pos) (after:=after) (guard:=guard) hx hs hy hone hn (by
  apply Nat.ble_eq_true_of_le;omega)
 have e1:cs.take (off+i.toNat*1)++ [A v]++cs.drop (off+i.toNat*1+1)=cs':=by
  rw[kC _ _ _ oM,hc]
  have hl:(cs.take off).length=off:=by rw[List.length_take];omega
  conv=>lhs;rw[h]
  rw[List.set_append_right _ _ (by rw[hl];omega),hl]
  have e2:off+i.toNat*1 - off=i.toNat:=oM
  rw[e2,List.set_append_left _ _ (by simp[bf];exact h3),qI]
 rw[e1] at this
 exact this
theorem iJ{x:AV}(h:x.ok1=true):∀m φ w u,SR m φ st w→RA m φ w x u→u.oneCell'=true∧u.cells= #[u]:=λ_ _ _ _ _ hr=>⟨kx hr h,iR (kx hr h)⟩
theorem nU{φ w}:∀{ps:List D}{b off:Nat}(n:Nat),RPs φ w ps b off→RPs φ w (ps.take n) b off
 |[],_,_,_,_=>by simp[RPs]
 |p::ps,b,off,0,h=>by simp[RPs]
 |p::ps,b,off,n+1,h=>by
  simp only[RPs] at h
  simp only[List.take_succ_cons,RPs]
  exact⟨h.1,nU n h.2⟩
end
end Go.Sk
namespace Go.Sk
open Go.RowKit (Below)
def AO.lr:AO→Bool| .dead=>false|_=>true
theorem n5{o:AO}(h:o.lr=true):o.live=true∨o= .rsv:=by cases o<;>simp_all [AO.lr,AO.live]
def kn:List AO→Bool
 |[]=>true
 |o::l=>o.lr&&kn l
theorem ln:∀{l:List AO},kn l=true→∀{i:Nat}{o:AO},l[i]? =some o→o.live=true∨o= .rsv
 |[],_,i,o,h=>by simp at h
 |p::l,hl,i,o,h=>by
  simp only[kn,Bool.and_eq_true] at hl
  cases i with
  |zero=>simp only[List.getElem?_cons_zero,aq] at h;subst h;exact n5 hl.1
  |succ i=>exact ln hl.2 (by simpa using h)
theorem SR.window{m:List Cz}{φ:Nat→Nat}{st st0:List AO}{w:World}{js:List Nat}(hs:SR m φ st w)(hj:js.Nodup)(hwin:fF js st (st0.map (AO.ren js)))(hlt:dF js.length st0=true):
  Win js m (js.map λj=>m.getD j (.blk 0))∧SR (js.map λj=>m.getD j (.blk 0)) φ st0 w:=by
 obtain⟨hlen,hget⟩:=dI hwin
 rw[List.length_map] at hlen
 generalize hm0':(js.map λj=>m.getD j (.blk 0))=m0
 have hW:Win js m m0:=λi j hij=>by
  have hjl:=(hget i j hij).2
  have hjm:j<m.length:=by rw[hs.len];exact hjl
  simp only[←hm0',List.getElem?_map,hij,Option.map_some,List.getD_eq_getElem?_getD,geG hjm,Option.getD_some]
 have hm0:m0.length=js.length:=by simp[←hm0']
 have hs0:SR m0 φ st0 w:=by
  refine⟨by rw[hm0,hlen],λi o c h1 h2=>?_,hs.lt,λi j o o' c c' b h1 h2 l1 l2 h3 h4 h5 h6=>?_,hs.gl,λb ⟨i,c,h,h2⟩=>?_⟩
  rotate_right
  ·have hi:i<js.length:=by rw[←hm0];exact(giS.1 h).1
   have h8:=hW i _ (geG hi)
   rw[h] at h8
   exact hs.nb b ⟨_,c,h8.symm,h2⟩
  ·have hi:i<js.length:=by rw[←hlen];exact(giS.1 h1).1
   have hji:=geG hi
   have h7:=(hget i _ hji).1
   rw[List.getElem?_map,h1,Option.map_some] at h7
   have h8:=hW i _ hji
   rw[h2] at h8
   exact(OR.ren hW (eh hlt h1)).1 (hs.obj _ _ _ h7 h8.symm)
  ·have hi:i<js.length:=by rw[←hlen];exact(giS.1 h1).1
   have hi':j<js.length:=by rw[←hlen];exact(giS.1 h2).1
   have hji:=geG hi
   have hji':=geG hi'
   have h7:=(hget i _ hji).1
   have h7':=(hget j _ hji').1
   rw[List.getElem?_map,h1,Option.map_some] at h7
   rw[List.getElem?_map,h2,Option.map_some] at h7'
   have h8:=hW i _ hji
   have h8':=hW j _ hji'
   rw[h3] at h8
   rw[h4] at h8'
   have:=hs.inj _ _ _ _ _ _ b h7 h7' (by rw[bI];exact l1) (by rw[bI];exact l2) h8.symm h8'.symm h5 h6
   exact(List.getElem?_inj hi hj).1 (by rw[hji,hji',this])
 exact⟨hW,hs0⟩
theorem jE{js:List Nat}{m φ w}{st st0:List AO}(hs:SR m φ st w)(hj:js.Nodup)(hwin:fF js st (st0.map (AO.ren js)))(hlt:dF js.length st0=true)(hlive:kn st0=true):
  ∃m0,SR m0 φ st0 w∧(∀as0 vs,AV.lts js.length as0=true→RAs m φ w (AV.rens js as0) vs→RAs m0 φ w as0 vs)∧
   ∀st1 m1 φ' w',Ev m0 φ w m1 φ' w'→SR m1 φ' st1 w'→st0.length≤st1.length→dF js.length (st1.take st0.length)=true→
   ∃m',Ev m φ w m' φ' w'∧SR m' φ' (bM js ((st1.take st0.length).map (AO.ren js)) st) w'∧(∀r v,r.lt js.length=true→RA m1 φ' w' r v→RA m' φ' w' (r.ren js) v):=by
 obtain⟨hlen,hget⟩:=dI hwin
 rw[List.length_map] at hlen
 let m0:List Cz:=js.map λj=>m.getD j (.blk 0)
 have hW:Win js m m0:=λi j hij=>by
  have hjl:=(hget i j hij).2
  have hjm:j<m.length:=by rw[hs.len];exact hjl
  simp only[m0,List.getElem?_map,hij,Option.map_some,List.getD_eq_getElem?_getD,geG hjm,Option.getD_some]
 have hm0:m0.length=js.length:=by simp[m0]
 have hs0:SR m0 φ st0 w:=by
  refine⟨by rw[hm0,hlen],λi o c h1 h2=>?_,hs.lt,λi j o o' c c' b h1 h2 l1 l2 h3 h4 h5 h6=>?_,hs.gl,λb ⟨i,c,h,h2⟩=>?_⟩
  rotate_right
  ·have hi:i<js.length:=by rw[←hm0];exact(giS.1 h).1
   have h8:=hW i _ (geG hi)
   rw[h] at h8
   exact hs.nb b ⟨_,c,h8.symm,h2⟩
  ·have hi:i<js.length:=by rw[←hlen];exact(giS.1 h1).1
   have hji:=geG hi
   have h7:=(hget i _ hji).1
   rw[List.getElem?_map,h1,Option.map_some] at h7
   have h8:=hW i _ hji
   rw[h2] at h8
   exact(OR.ren hW (eh hlt h1)).1 (hs.obj _ _ _ h7 h8.symm)
  ·have hi:i<js.length:=by rw[←hlen];exact(giS.1 h1).1
   have hi':j<js.length:=by rw[←hlen];exact(giS.1 h2).1
   have hji:=geG hi
   have hji':=geG hi'
   have h7:=(hget i _ hji).1
   have h7':=(hget j _ hji').1
   rw[List.getElem?_map,h1,Option.map_some] at h7
   rw[List.getElem?_map,h2,Option.map_some] at h7'
   have h8:=hW i _ hji
   have h8':=hW j _ hji'
   rw[h3] at h8
   rw[h4] at h8'
   have:=hs.inj _ _ _ _ _ _ b h7 h7' (by rw[bI];exact l1) (by rw[bI];exact l2) h8.symm h8'.symm h5 h6
   exact(List.getElem?_inj hi hj).1 (by rw[hji,hji',this])
 refine⟨m0,hs0,λas0 vs hla ha=>(RAs.ren hW as0 vs hla).1 ha,λst1 m1 φ' w' hev hsr hle hlt1=>?_⟩
 have hm1:js.length≤m1.length:=by rw[hsr.len,←hlen];exact hle
 let m':=cO js (m1.take js.length) m
 let st':=bM js ((st1.take st0.length).map (AO.ren js)) st
 have hjm:∀j∈js,j<m.length:=λj hj'=>by
  obtain⟨a,ha'⟩:=List.getElem?_of_mem hj'
  rw[hs.len];exact(hget a j ha').2
 have hjs:∀j∈js,j<st.length:=λj hj'=>by rw[←hs.len];exact hjm j hj'
 have gm:=iI (js:=js) (os:=m1.take js.length) (st:=m) hj (by simp[hm1]) hjm
 have gs:=gR (js:=js) (os:=(st1.take st0.length).map (AO.ren js)) (st:=st) hj (by simp[hlen];omega) hjs
 have hW':Win js m' m1:=λi j hij=>by
  have hi:i<js.length:=(giS.1 hij).1
  show _=(cO js (m1.take js.length) m)[j]?
  rw[(gm j).1 i hij,List.getElem?_take,if_pos hi]
 have inm0:∀b,In m0 b→In m b:=by
  rintro b ⟨i,c,h1,h2⟩
  have hi:i<js.length:=by rw[←hm0];exact(giS.1 h1).1
  have h8:=hW i _ (geG hi)
  rw[h1] at h8
  exact⟨_,c,h8.symm,h2⟩
 have hpre:Pre m m':=λi c hi=>by
  by_cases hij:i∈js
  ·obtain⟨a,ha'⟩:=List.getElem?_of_mem hij
   have h8:=hW a _ ha'
   rw[hi] at h8
   obtain⟨c',h9,h10⟩:=hev.pre a c h8
   refine⟨c',?_,h10⟩
   have:=hW' a _ ha'
   rw[←this];exact h9
  ·exact⟨c,by show(cO js (m1.take js.length) m)[i]? =_;rw[(gm i).2 hij];exact hi,Cz.le_refl c⟩
 have hev':Ev m φ w m' φ' w':=by
  refine⟨hpre,?_,hev.os,hev.tape,hev.output,hev.size,λb hb hn=>hev.keep b hb (λh=>hn (inm0 b h)),hev.fz⟩
  rintro b ⟨i,c,h1,h2⟩
  by_cases hij:i∈js
  ·obtain⟨a,ha'⟩:=List.getElem?_of_mem hij
   have:=hW' a _ ha'
   rw[h1] at this
   rcases hev.new b ⟨a,c,this,h2⟩ with h|h
   ·exact .inl (inm0 b h)
   ·exact .inr h
  ·have h1':(cO js (m1.take js.length) m)[i]? =some c:=h1
   rw[(gm i).2 hij] at h1'
   exact .inl ⟨i,c,h1',h2⟩
 -- a live object of the caller that was not lent lies in no block of the callee's
 have out:∀(i:Nat)(o:AO)(c:Cz)(b:Nat),i∉js→st[i]? =some o→o.live=true→m[i]? =some c→c.has b→¬In m0 b:=by
  rintro i o c b hij h1 hlv h2 h3 ⟨a,c',h4,h5⟩
  have hi:a<js.length:=by rw[←hm0];exact(giS.1 h4).1
  have hja:=geG hi
  have h8:=hW a _ hja
  rw[h4] at h8
  have ha0:a<st0.length:=by rw[hlen];exact hi
  have h9:=(hget a _ hja).1
  rw[List.getElem?_map,geG ha0,Option.map_some] at h9
  rcases ln hlive (geG ha0) with hl9|hl9
  ·have:=hs.inj _ _ _ _ _ _ b h1 h9 hlv (by rw[bI];exact hl9) h2 h8.symm h3 h5
   exact hij (this▸List.getElem_mem hi)
  ·rw[hl9] at h9
   have h10:c'= .non:=hs.obj _ _ _ h9 h8.symm
   subst h10
   exact h5
 have hst:∀(i:Nat)(o:AO),i∉js→st'[i]? =some o→st[i]? =some o:=λi o hij h=>by
  have:(bM js ((st1.take st0.length).map (AO.ren js)) st)[i]? =some o:=h
  rwa [(gs i).2 hij] at this
 have hmm:∀(i:Nat)(c:Cz),i∉js→m'[i]? =some c→m[i]? =some c:=λi c hij h=>by
  have:(cO js (m1.take js.length) m)[i]? =some c:=h
  rwa [(gm i).2 hij] at this
 have hst1:∀(a i:Nat)(o:AO),js[a]? =some i→st'[i]? =some o→∃o1,st1[a]? =some o1∧o=o1.ren js∧o1.lt js.length=true:=λa i o ha' h=>by
  have:(bM js ((st1.take st0.length).map (AO.ren js)) st)[i]? =some o:=h
  rw[(gs i).1 a ha',List.getElem?_map] at this
  have hal:a<st0.length:=by rw[hlen];exact(giS.1 ha').1
  cases ht:(st1.take st0.length)[a]? with
  |none=>rw[ht] at this;simp at this
  |some o1=>
   rw[ht,Option.map_some,aq] at this
   exact⟨o1,(cR ht).2,this.symm,eh hlt1 ht⟩
 refine⟨m',hev',⟨?_,?_,hsr.lt,?_,hsr.gl,?_⟩,λr v hrl hra=>(RA.ren hW' r v hrl).2 hra⟩
 rotate_right
 ·rintro b ⟨i,c,h1,h2⟩
  by_cases hij:i∈js
  ·obtain⟨a,ha'⟩:=List.getElem?_of_mem hij
   have:=hW' a _ ha'
   rw[h1] at this
   exact hsr.nb b ⟨a,c,this,h2⟩
  ·have h1':(cO js (m1.take js.length) m)[i]? =some c:=h1
   rw[(gm i).2 hij] at h1'
   exact Nat.lt_of_lt_of_le (hs.nb b ⟨i,c,h1',h2⟩) hev.size
 ·show(cO _ _ _).length=(bM _ _ _).length
  rw[fd,eK];exact hs.len
 ·intro i o c h1 h2
  by_cases hij:i∈js
  ·obtain⟨a,ha'⟩:=List.getElem?_of_mem hij
   obtain⟨o1,h3,rfl,h4⟩:=hst1 a i o ha' h1
   have h5:=hW' a i ha'
   rw[h2] at h5
   exact(OR.ren hW' h4).2 (hsr.obj a o1 c h3 h5)
  ·have h1':=hst i o hij h1
   have h2':=hmm i c hij h2
   have hor:=hs.obj i o c h1' h2'
   cases hlv:o.live with
   |false=>cases o<;>first|trivial|exact h|(simp[AO.live] at hlv;done)
   |true=>exact hor.congr hpre hev.fz (λb hb=>hev.keep b (hor.block_lt hlv hb) (out i o c b hij h1' hlv h2' hb))
 ·intro i j o o' c c' b h1 h2 l1 l2 h3 h4 h5 h6
  have mixed:∀(i j:Nat)(o o':AO)(c c':Cz),i∉js→j∈js→st'[i]? =some o→m'[i]? =some c→o.live=true→m'[j]? =some c'→c.has b→c'.has b→False:=by
   intro i j o o' c c' hi hj' g1 g2 g3 g4 g5 g6
   obtain⟨a,ha'⟩:=List.getElem?_of_mem hj'
   have g1':=hst i o hi g1
   have g2':=hmm i c hi g2
   have h7:=hW' a _ ha'
   rw[g4] at h7
   rcases hev.new b ⟨a,c',h7,g6⟩ with h|h
   ·exact out i o c b hi g1' g3 g2' g5 h
   ·have:=(hs.obj i o c g1' g2').block_lt g3 g5
    omega
  by_cases hi:i∈js
  ·by_cases hj':j∈js
   ·obtain⟨a,ha'⟩:=List.getElem?_of_mem hi
    obtain⟨a2,ha2⟩:=List.getElem?_of_mem hj'
    obtain⟨o1,q1,rfl,_⟩:=hst1 a i o ha' h1
    obtain⟨o2,q2,rfl,_⟩:=hst1 a2 j o' ha2 h2
    have h7:=hW' a _ ha'
    have h8:=hW' a2 _ ha2
    rw[h3] at h7
    rw[h4] at h8
    have:=hsr.inj a a2 o1 o2 c c' b q1 q2 (by rw[←bI];exact l1) (by rw[←bI];exact l2) h7 h8 h5 h6
    subst this
    rw[ha'] at ha2
    exact inS ha2
   ·exact(mixed j i o' o c' c hj' hi h2 h4 l2 h3 h6 h5).elim
  ·by_cases hj':j∈js
   ·exact(mixed i j o o' c c' hi hj' h1 h3 l1 h4 h5 h6).elim
   ·exact hs.inj i j o o' c c' b (hst i o hi h1) (hst j o' hj' h2) l1 l2 (hmm i c hi h3) (hmm j c' hj' h4) h5 h6
def cX(k:Nat)(S:AV→List AO→Prop)(r:AV)(st1:List AO):Prop:=k≤st1.length∧S r (st1.take k)
def dU(k:Nat)(S:List PanicEntry→List AO→Prop)(c:List PanicEntry)(st1:List AO):Prop:=k≤st1.length∧S c (st1.take k)
def CtrP(P:Program)(f:FuncId)(asz:List AV)(st:List AO)(Q:AV→List AO→Prop)(QP:List PanicEntry→List AO→Prop):Prop:=
 d8 P f∧∀m φ w vs,SR m φ st w→RAs m φ w asz vs→Calls P f ⟨vs⟩ w λen w'=>ik ⟨m,φ,w,0,none,none⟩ Q QP en w'
theorem CtrP.mono{P:Program}{f:FuncId}{asz:List AV}{st:List AO}{Q Q':AV→List AO→Prop}{QP QP':List PanicEntry→List AO→Prop}(h:CtrP P f asz st Q QP)(hq:∀r st',Q r st'→Q' r st')(hp:∀c st',QP c st'→QP' c st'):CtrP P f asz st Q' QP':=
 ⟨h.1,λm φ w vs hs ha=>(h.2 m φ w vs hs ha).mono λen w' he=>by
  rcases he with⟨v,r,st',m',φ',h1,h2,h3⟩|⟨c,st',m',φ',h1,h2,h3⟩
  ·exact .inl ⟨v,r,st',m',φ',h1,hq _ _ h2,h3⟩
  ·exact .inr ⟨c,st',m',φ',h1,hp _ _ h2,h3⟩⟩
theorem bC{P:Program}{f:FuncId}{fn:Func}{c:Code}{asz:List AV}{st:List AO}{Q:AV→List AO→Prop}{QP:List PanicEntry→List AO→Prop}{n:Nat}(hf:P.funcs[f]? =some fn)(hname:(fn.name== "runtime.NumGoroutine")=false)
  (hb:fn.body=some c)(hn:fn.ntmps=n)(hle:Nat.ble asz.length n=true)(h:∀m φ w,m.length=st.length→WC P ⟨m,φ,w,n,none,none⟩ c (.finP fn Q QP) (dX 0 asz) st):CtrP P f asz st Q QP:=by
 refine⟨⟨fn,hf,hname,by simp[hb]⟩,λm φ w vs hs ha=>gc (n:=0) (callsIn_of_wp_marks hf hb trivial ?_)⟩
 have hlen:=aC ha
 refine h m φ w hs.len m φ _ w ⟨hs,Ev.refl m φ w,⟨λt x hx=>?_,hs.gl⟩,?_,trivial⟩
 ·rw[ed] at hx
  simp only[Nat.zero_le,if_true,Nat.sub_zero] at hx
  obtain⟨v,h1,h2⟩:=ce ha hx
  refine⟨v,?_,h2⟩
  have hlt:t<vs.length:=by
   rcases Nat.lt_or_ge t vs.length with h'|h'
   ·exact h'
   ·simp[List.getElem?_eq_none h'] at h1
  rw[Array.getElem?_append_left (by simpa using hlt)]
  simpa using h1
 ·have:=nbT hle
  simp[hn];omega
def jv(e:En)(R:Env→List AO→Prop)(RP:List PanicEntry→Env→List AO→Prop)(x:Exit)(a:Act)(w:World):Prop:=
 jT e R x a w∨∃c,x= .panic c∧∃env st m φ,RP c env st∧Inv e m φ env st a w
def WLP(P:Program)(e:En)(ops:Array Oper)(l:List Oper)(env:Env)(st:List AO)(R:Env→List AO→Prop)(RP:List PanicEntry→Env→List AO→Prop):Prop:=
 ∀m φ a w,Inv e m φ env st a w→cN P ops (jv e R RP) l a w
theorem gZ{P:Program}{ops:Array Oper}{Q Q':Exit→Act→World→Prop}{l2:List Oper}(hn:∀a w,Q .normal a w→cN P ops Q' l2 a w)(hq:∀x a w,x≠ .normal→Q x a w→Q' x a w):
  ∀(l:List Oper)(a:Act)(w:World),cN P ops Q l a w→cN P ops Q' (l++l2) a w
 |[],a,w,h=>hn a w h
 |o::l,a,w,h=>by
  have ih:=gZ hn hq l
  rw[List.cons_append]
  unfold cN at h⊢
  split
  ·rename_i hw
   rw[if_pos hw] at h
   rcases h with h|h
   ·refine .inl ?_
    unfold Oper.wp at h⊢
    generalize(execOp a.eval o).run P w=x at h⊢
    cases x with
    |ok nx w'=>
     cases nx with
     |value v=>exact ih _ _ h
     |skip=>exact ih _ _ h
     |defer d=>exact ih _ _ h
     |enter f args=>
      refine Calls.mono h ?_
      intro en w'' he
      cases en with
      |returned v=>exact ih _ _ he
      |panicked c=>exact hq _ _ _ sM he
      |outgrown=>obtain⟨a0,w0,h0⟩:=he;exact⟨a0,w0,hq _ _ _ sM h0⟩
     |row rw args=>exact λc cs=>let ⟨v,w2,h1,h2⟩:=h c cs;⟨v,w2,ih _ _ h1,h2⟩
     |_=>exact h.elim
    |halt hh w'=>cases hh<;>first|exact hq _ _ _ sM h|exact h.elim
   ·obtain⟨l',f,tmps,asg,body,w',h1,h2⟩:=h
    exact .inr ⟨l',f,tmps,asg,body,w',h1,h2.mono λen w'' ⟨v,e1,e2⟩=>⟨v,e1,ih _ _ e2⟩⟩
  ·rename_i hw
   rw[if_neg hw] at h
   exact ih _ _ h
section
variable{P:Program}{e:En}{ops:Array Oper}{l rest:List Oper}{o:Oper}{env:Env}{st:List AO}{R:Env→List AO→Prop}{RP:List PanicEntry→Env→List AO→Prop}{d:Nat}{k:Ko}
theorem WLP.pre(n:Nat)(h:WL P e ops (l.take n) env st (λenv' st'=>WLP P e ops (l.drop n) env' st' R RP)):WLP P e ops l env st R RP:=λm φ a w hi=>by
 have:=gZ (Q':=jv e R RP) (l2:=l.drop n) (λa w ⟨_,env,st,m,φ,h1,h2⟩=>h1 m φ a w h2) (λx a w hx ⟨h1,_⟩=>absurd h1 hx) (l.take n) a w (h m φ a w hi)
 rwa [List.take_append_drop] at this
theorem WLP.of(h:WL P e ops l env st R):WLP P e ops l env st R RP:=λm φ a w hi=>by
 have:=gZ (Q':=jv e R RP) (l2:=[]) (λa w h=> .inl h) (λx a w hx ⟨h1,_⟩=>absurd h1 hx) l a w (h m φ a w hi)
 rwa [List.append_nil] at this
theorem au{id:Nat}{l:List Oper}(h:WLP P e l.toArray l env st (λenv' st'=>WE P e .normal k env' st') (λc env' st'=>WE P e (.panic c) k env' st'))(hd:bl l=true:=by kernel_rfl):WC P e (.region id l.toArray false) k env st:=λm φ a w hi=>
 wpIn_mono (wpIn_region_lit (d6 l hd a w (h m φ a w hi))) λx a' w' hx=>by
  rcases hx with⟨rfl,env',st',m',φ',hR,hi'⟩|⟨c,rfl,env',st',m',φ',hR,hi'⟩
  ·exact hR m' φ' a' w' hi'
  ·exact hR m' φ' a' w' hi'
theorem aU{c:List PanicEntry}{x:Code}(h:WE P e (.panic c) k env st):WE P e (.panic c) (.seq x k) env st:=λm φ a w hi=>h m φ a w hi
theorem bG{c:List PanicEntry}{id:Nat}(h:WE P e (.panic c) k env st):WE P e (.panic c) (.blk id k) env st:=λm φ a w hi=>h m φ a w hi
theorem gj{c:List PanicEntry}{J:Env→List AO→Prop}(h:WE P e (.panic c) k env st):WE P e (.panic c) (.lp J k) env st:=λm φ a w hi=>h m φ a w hi
theorem pr{x:Operand}{t:TypeId}{p:D}{v:Value}{dst:Option Tmp}{ty:TypeId}{pos:String}{after:Array Edge}(hx:opv env x=some (.d (.ifc t p)))(hg:D.gnd p=some v)
  (h:RP [{ v:= .iface t v,recovered:=false }] env st):WLP P e ops (⟨dst, .panic x,ty,pos,after,none⟩::rest) env st R RP:=λm φ a w hi=>by
 have hv:=aA hi.env hx
 simp only[RA,RD] at hv
 obtain⟨z,h1,h2⟩:=hv
 have h3:=rR h2 hg
 subst h3
 unfold cN
 rw[if_pos (by simp[Region.wanted])]
 refine .inl ?_
 have:(execOp a.eval (⟨dst, .panic x,ty,pos,after,none⟩:Oper)).run P w= .halt (.panic (.iface t z)) w:=by
  simp[execOp,Instr.panic,h1,goPanic]
 simp only[Oper.wp,this,Oper.upon]
 exact .inr ⟨_,rfl,env,st,m,φ,h,hi⟩
theorem WL.wing{f:FuncId}{c:Call}{x:Operand}{first caps asz as0:List AV}{st0 st0':List AO}{S:AV→List AO→Prop}(js:List Nat)(hop:o.op= .call c)(hx:c.callee= .value x)
  (hf:opv env x=some (.fn (.func f) first caps))(has:cP env c.args.toList=some asz)(hc:Ctr P f as0 st0 (cX st0.length S))(hl:Les (first++asz++caps) (AV.rens js as0))
  (hla:AV.lts js.length as0=true)(hj:js.Nodup)(hren0:st0.map (AO.ren js)=st0')(hwin:fF js st st0')(hlt:dF js.length st0=true)(hlive:kn st0=true)
  (hw:Wt ops env o true)(ho:o.dst=some d)(hd:Nat.ble (d+1) e.n=true)
  (h:∀r new,S r new→∃r' new',r.ren js=r'∧new.map (AO.ren js)=new'∧r.lt js.length=true∧dF js.length new=true∧WL P e ops rest ((d,r')::env) (bM js new' st) R):WL P e ops (o::rest) env st R:=λm φ a w hi=>by
 obtain⟨vs,h1,h2⟩:=eo (P:=P) hi.env hop hx hf has hc.1
 unfold cN
 rw[if_pos (hw _ _ _ _ hi.env)]
 refine .inl ?_
 simp only[Oper.wp,h2,Oper.upon,ho]
 obtain⟨m0,g1,g2,g3⟩:=jE hi.sr hj (by rw[hren0];exact hwin) hlt hlive
 refine(hc.2 m0 φ w vs g1 (g2 _ _ hla (hl.ras h1))).mono ?_
 rintro en w' ⟨v,r,st1,m1,φ',rfl,⟨q1,q2⟩,hev,hsr,hra⟩
 obtain⟨_,_,rfl,rfl,k1,k2,k3⟩:=h r _ q2
 obtain⟨m',p1,p2,p3⟩:=g3 st1 m1 φ' w' hev hsr q1 k2
 exact k3 m' φ' _ w' (hi.ev_put p1 p2 (nbT hd) (p3 r v k1 hra))
theorem WLP.wing{f:FuncId}{c:Call}{x:Operand}{first caps asz as0:List AV}{st0 st0':List AO}{S:AV→List AO→Prop}{SP:List PanicEntry→List AO→Prop}(js:List Nat)(hop:o.op= .call c)(hx:c.callee= .value x)
  (hf:opv env x=some (.fn (.func f) first caps))(has:cP env c.args.toList=some asz)(hc:CtrP P f as0 st0 (cX st0.length S) (dU st0.length SP))(hl:Les (first++asz++caps) (AV.rens js as0))
  (hla:AV.lts js.length as0=true)(hj:js.Nodup)(hren0:st0.map (AO.ren js)=st0')(hwin:fF js st st0')(hlt:dF js.length st0=true)(hlive:kn st0=true)
  (hw:Wt ops env o true)(ho:o.dst=some d)(hd:Nat.ble (d+1) e.n=true)
  (h:∀r new,S r new→∃r' new',r.ren js=r'∧new.map (AO.ren js)=new'∧r.lt js.length=true∧dF js.length new=true∧WLP P e ops rest ((d,r')::env) (bM js new' st) R RP)
  (hp:∀c new,SP c new→∃new',new.map (AO.ren js)=new'∧dF js.length new=true∧RP c env (bM js new' st)):WLP P e ops (o::rest) env st R RP:=λm φ a w hi=>by
 obtain⟨vs,h1,h2⟩:=eo (P:=P) hi.env hop hx hf has hc.1
 unfold cN
 rw[if_pos (hw _ _ _ _ hi.env)]
 refine .inl ?_
 simp only[Oper.wp,h2,Oper.upon,ho]
 obtain⟨m0,g1,g2,g3⟩:=jE hi.sr hj (by rw[hren0];exact hwin) hlt hlive
 refine(hc.2 m0 φ w vs g1 (g2 _ _ hla (hl.ras h1))).mono ?_
 rintro en w' (⟨v,r,st1,m1,φ',rfl,⟨q1,q2⟩,hev,hsr,hra⟩|⟨c,st1,m1,φ',rfl,⟨q1,q2⟩,hev,hsr⟩)
 ·obtain⟨_,_,rfl,rfl,k1,k2,k3⟩:=h r _ q2
  obtain⟨m',p1,p2,p3⟩:=g3 st1 m1 φ' w' hev hsr q1 k2
  exact k3 m' φ' _ w' (hi.ev_put p1 p2 (nbT hd) (p3 r v k1 hra))
 ·obtain⟨_,rfl,k2,k3⟩:=hp c _ q2
  obtain⟨m',p1,p2,p3⟩:=g3 st1 m1 φ' w' hev hsr q1 k2
  exact .inr ⟨c,rfl,env,_,m',φ',k3,hi.go p1 p2⟩
theorem WLP.inl{f:FuncId}{c:Call}{x:Operand}{first caps asz us:List AV}(Q:AV→List AO→Prop)(QP:List PanicEntry→List AO→Prop)(hop:o.op= .call c)(hx:c.callee= .value x)
  (hf:opv env x=some (.fn (.func f) first caps))(has:cP env c.args.toList=some asz)(he:first++asz++caps=us)(hc:CtrP P f us st Q QP)
  (hw:Wt ops env o true)(ho:o.dst=some d)(hd:Nat.ble (d+1) e.n=true)(h:∀r st',Q r st'→WLP P e ops rest ((d,r)::env) st' R RP)(hp:∀c st',QP c st'→RP c env st'):WLP P e ops (o::rest) env st R RP:=λm φ a w hi=>by
 subst he
 obtain⟨vs,h1,h2⟩:=eo (P:=P) hi.env hop hx hf has hc.1
 unfold cN
 rw[if_pos (hw _ _ _ _ hi.env)]
 refine .inl ?_
 simp only[Oper.wp,h2,Oper.upon,ho]
 refine(hc.2 m φ w vs hi.sr h1).mono ?_
 rintro en w' (⟨v,r,st',m',φ',rfl,hQ,hev,hsr,hra⟩|⟨c,st',m',φ',rfl,hQ,hev,hsr⟩)
 ·exact h r st' hQ m' φ' _ w' (hi.ev_put hev hsr (nbT hd) hra)
 ·exact .inr ⟨c,rfl,env,_,m',φ',hp c st' hQ,hi.go hev hsr⟩
end
theorem fV{P:Program}{F:Fence}{n:Nat}{e:En}{fn:Func}{R:Ending→World→Prop}{env:Env}{st:List AO}{m:List Cz}{φ:Nat→Nat}{a:Act}{tmps:Array Value}{tail:List Deferred}{u:FrameMode}(hu:u≠ .run)
  (base:∀w,SR m φ st w→EnvOk m φ w env a→Ev e.m e.φ e.w m φ w→LeavesInM F n P fn tmps R tail u w):
  ∀(ds:List Deferred)(w:World),Marks e.w.heap.size m w ds→SR m φ st w→EnvOk m φ w env a→Ev e.m e.φ e.w m φ w→LeavesInM F n P fn tmps R (ds++tail) u w
 |[],w,_,hs,he,hev=>base w hs he hev
 |d::ds,w,hm,hs,he,hev=>by
  obtain⟨⟨b,h1,h2,h3,h4,h5⟩,h6⟩:=hm
  obtain⟨hF,hs'⟩:=jj hs h2 h3
  refine⟨hu, .inl ⟨b,_,h1,run_takeDeferred h2,?_⟩⟩
  have hm':∀{ds:List Deferred},(∀d'∈ds,d'.target≠ .collected b)→Marks e.w.heap.size m w ds→Marks e.w.heap.size m (w.putObj b (.deferred none)) ds:=by
   intro ds
   induction ds with
   |nil=>intro _ _;trivial
   |cons d ds ih=>
    rintro hn ⟨⟨b',g1,g2,g3,g4,g5⟩,g6⟩
    have hne:b'≠b:=λh=>hn d List.mem_cons_self (h▸g1)
    exact⟨⟨b',g1,(bW hne).trans g2,g3,g4,g5⟩,ih (λd' hd'=>hn d' (List.mem_cons_of_mem _ hd')) g6⟩
  exact fV hu base ds _ (hm' h5 h6) hs' (he.mono (Pre.refl m) hF) (hev.trans' hF λk hk=>bW oM)
section
variable{P:Program}{e:En}{fn:Func}{env:Env}{st:List AO}{k:Nat}
theorem sg{m':List Cz}{φ φ':Nat→Nat}{w w':World}{st' st1:List AO}{perm:List Nat}{r0:AV}{new:List AO}{m0:List Cz}{v:Value}(hs:SR m' φ' st' w')(hev:Ev m0 φ w m' φ' w')(hra:RA m' φ' w' (r0.ren perm) v)(hwk:SLe st' st1)
  (hp:perm.Nodup)(hwin:fF perm st1 (new.map (AO.ren perm)))(hlt:dF perm.length new=true)(hr0:r0.lt perm.length=true)(hk:m0.length=perm.length)
  (hfix:∀i:Nat,i<perm.length→perm[i]? =some i∨st'[i]? =some .rsv):
  ∃m2,Ev m0 φ w m2 φ' w'∧SR m2 φ' new w'∧RA m2 φ' w' r0 v:=by
 obtain⟨hW,hs2⟩:=(hs.weak hwk).window hp hwin hlt
 generalize hm2:(perm.map λj=>m'.getD j (.blk 0))=m2 at hW hs2
 obtain⟨hlen,hget⟩:=dI hwin
 have hl2:m2.length=perm.length:=by simp[←hm2]
 have hm1:m'.length=st1.length:=by rw[(hs.weak hwk).len]
 refine⟨m2,⟨λi c hi=>?_,λb ⟨i,c,h1,h2⟩=>?_,hev.os,hev.tape,hev.output,hev.size,hev.keep,hev.fz⟩,hs2,(RA.ren hW r0 v hr0).1 hra⟩
 ·have hil:i<perm.length:=by rw[←hk];exact(giS.1 hi).1
  obtain⟨c',h1,h2⟩:=hev.pre i c hi
  rcases hfix i hil with h|h
  ·have:=hW i i h
   exact⟨c',this.trans h1,h2⟩
  ·have h3:c'= .non:=hs.obj i _ c' h h1
   subst h3
   obtain⟨c2,h4⟩:∃c2,m2[i]? =some c2:=⟨_,geG (by rw[hl2];exact hil)⟩
   refine⟨c2,h4,?_⟩
   cases c with
   |non=>trivial
   |blk b=>simp[Cz.le] at h2
   |tok v y=>simp[Cz.le] at h2
   |fam v y=>simp[Cz.le] at h2
 ·have hil:i<perm.length:=by rw[←hl2];exact(giS.1 h1).1
  have:=hW i _ (geG hil)
  rw[h1] at this
  exact hev.new b ⟨_,c,this.symm,h2⟩
end
section
variable{P:Program}{e:En}{fn:Func}{env:Env}{st:List AO}{k:Nat}
theorem WE.finP{Q:AV→List AO→Prop}{QP:List PanicEntry→List AO→Prop}(h:WE P e .ret (.fin fn Q) env st):WE P e .ret (.finP fn Q QP) env st:=λm φ a w hi=>
 LeavesInM.mono (λ_en _w h=> .inl h) _ _ _ (h m φ a w hi)
theorem bK{Q:AV→List AO→Prop}{QP:List PanicEntry→List AO→Prop}(h:WE P e .ret (.finP fn Q QP) env st):WE P e .normal (.finP fn Q QP) env st:=h
theorem fM:∀(k:Nat)(st new:List AO),SLe (st.take k) new→SLe st (new++st.drop k)
 |0,_st,[],_=>SLe.refl _
 |0,_st,_::_,h=>h.elim
 |_k+1,[],[],_=>trivial
 |_k+1,[],_::_,h=>h.elim
 |_k+1,_b::_st,[],h=>h.elim
 |k+1,_b::st,_a::new,h=>⟨h.1,fM k st new h.2⟩
theorem az{S:AV→List AO→Prop}{r r0:AV}{new:List AO}(hr:Res P fn env st r)(hl:Le r r0)(hk:Nat.ble k st.length=true)(hs:SLe (st.take k) new)(hS:S r0 new)(hds:e.nd=true:=by rfl):WE P e .ret (.fin fn (cX k S)) env st:=by
 have hk:=nbT hk
 have hnl:new.length=k:=by rw[hs.length,List.length_take];omega
 refine jb hr hl (fM k st new hs) ⟨?_,?_⟩ hds
 ·rw[List.length_append,hnl];omega
 ·rw[←hnl,List.take_left];exact hS
theorem aV{Q:AV→List AO→Prop}{SP:List PanicEntry→List AO→Prop}{m0 φ0 w0 n}{c:List PanicEntry}{new:List AO}(hk:Nat.ble k st.length=true)(hs:SLe (st.take k) new)(hS:SP c new):WE P ⟨m0,φ0,w0,n,none,none⟩ (.panic c) (.finP fn Q (dU k SP)) env st:=λm φ a w hi=>by
 have hk:=nbT hk
 have hnl:new.length=k:=by rw[hs.length,List.length_take];omega
 show LeavesInM (EF none) 0 P fn a.tmps _ a.defers (.panicking c) w
 have key:LeavesInM (EF none) 0 P fn a.tmps (ik ⟨m0,φ0,w0,n,none,none⟩ Q (dU k SP)) (a.defers++ []) (.panicking c) w:=by
  refine fV (e:=⟨m0,φ0,w0,n,none,none⟩) (env:=env) (st:=st) (m:=m) (φ:=φ) (a:=a) sM (λw' hs' he hev=>?_) a.defers w hi.df.marks hi.sr hi.env hi.ev
  exact .inr ⟨c,_,m,φ,rfl,⟨by rw[List.length_append,hnl];omega,by rw[←hnl,List.take_left];exact hS⟩,hev,hs'.weak (fM k st new hs)⟩
 rwa [List.append_nil] at key
theorem iC{Q:AV→List AO→Prop}{QP:List PanicEntry→List AO→Prop}{m0 φ0 w0 n}{c:List PanicEntry}(hS:QP c st):WE P ⟨m0,φ0,w0,n,none,none⟩ (.panic c) (.finP fn Q QP) env st:=λm φ a w hi=>by
 show LeavesInM (EF none) 0 P fn a.tmps _ a.defers (.panicking c) w
 have key:LeavesInM (EF none) 0 P fn a.tmps (ik ⟨m0,φ0,w0,n,none,none⟩ Q QP) (a.defers++ []) (.panicking c) w:=by
  refine fV (e:=⟨m0,φ0,w0,n,none,none⟩) (env:=env) (st:=st) (m:=m) (φ:=φ) (a:=a) sM (λw' hs' he hev=>?_) a.defers w hi.df.marks hi.sr hi.env hi.ev
  exact .inr ⟨c,_,m,φ,rfl,hS,hev,hs'⟩
 rwa [List.append_nil] at key
end
inductive Rs(α:Type) where
 |ok(a:α)
 |bad(e:Int)
def Rs.cs{α β:Type}:Rs α→(Int→β)→(α→β)→β
 | .bad e,f,_=>f e
 | .ok a,_,g=>g a
abbrev dfr(f:FuncId)(vs:List Value):Deferred:={ target:= .fn (.func f) ⟨vs⟩,args:= #[] }
def DSp(P:Program)(f:FuncId)(caps:List AV)(st:List AO)(u u':FrameMode)(st':List AO):Prop:=
 d8 P f∧∀m φ w vs,SR m φ st w→RAs m φ w caps vs→CallsDIn (EF none) 0 P f ⟨vs⟩ u w λen u2 w'=>(∃v,en= .returned v)∧u2=u'∧∃m' φ',Ev m φ w m' φ' w'∧SR m' φ' st' w'
section
variable{P:Program}{fn:Func}{env:Env}{st st':List AO}{f:FuncId}{caps:List AV}
theorem k8{R:Ending→World→Prop}{tmps:Array Value}{m φ w}{vs:List Value}{u u':FrameMode}(hu:u≠ .run)(hD:DSp P f caps st u u' st')(hs:SR m φ st w)(hcap:RAs m φ w caps vs)(hset:settle u'= .returning)
  (h:∀m' φ' w',Ev m φ w m' φ' w'→SR m' φ' st' w'→∃v,(results fn tmps).run P w'= .ok v w'∧R (.returned v) w'):LeavesInM (EF none) 0 P fn tmps R [dfr f vs] u w:=by
 obtain⟨⟨fu,c1,c2,c3⟩,hD⟩:=hD
 refine⟨hu, .inr ⟨λhx=>by simp[EF] at hx,_,_,f,⟨vs⟩,rfl,?_,λ_ _=>trivial,(hD m φ w vs hs hcap).mono ?_⟩⟩
 ·simp only[invoke,callFunc,Sem.run_bind,run_program,Result.andThen_ok,c1,c2,Bool.false_eq_true,ite_false,c3,Sem.run_pure]
  simp
 ·rintro en u2 w' ⟨⟨v,rfl⟩,rfl,m',φ',hev,hsr⟩
  show LeavesInM (EF none) 0 P fn tmps R [] (settle u2) w'
  rw[hset]
  exact h m' φ' w' hev hsr
theorem pN{Q:AV→List AO→Prop}{m0 φ0 w0 n}{vs:List Value}{r:AV}(hcap:RAs m0 φ0 w0 caps vs)(hD:DSp P f caps st .returning .returning st')(hr:Res P fn env st' r)(hQ:Q r st'):
  WE P ⟨m0,φ0,w0,n,none,some [dfr f vs]⟩ .ret (.fin fn Q) env st:=λm φ a w hi=>by
 have hd:a.defers=[dfr f vs]:=hi.df
 show LeavesInM (EF none) 0 P fn a.tmps _ a.defers .returning w
 rw[hd]
 refine k8 sM hD hi.sr (RAs.mono hi.ev.pre hi.ev.fz _ _ hcap) rfl λm' φ' w' hev hsr=>?_
 obtain⟨v,h1,h2⟩:=hr m' φ' a w' hsr (hi.env.mono hev.pre hev.fz)
 exact⟨v,h1,v,r,st',m',φ',rfl,hQ,hi.ev.trans hev,hsr,h2⟩
theorem pO{Q:AV→List AO→Prop}{m0 φ0 w0 n}{vs:List Value}{r:AV}{c:List PanicEntry}{u':FrameMode}(hcap:RAs m0 φ0 w0 caps vs)(hD:DSp P f caps st (.panicking c) u' st')(hset:settle u'= .returning)(hr:Res P fn env st' r)(hQ:Q r st'):
  WE P ⟨m0,φ0,w0,n,none,some [dfr f vs]⟩ (.panic c) (.fin fn Q) env st:=λm φ a w hi=>by
 have hd:a.defers=[dfr f vs]:=hi.df
 show LeavesInM (EF none) 0 P fn a.tmps _ a.defers (.panicking c) w
 rw[hd]
 refine k8 sM hD hi.sr (RAs.mono hi.ev.pre hi.ev.fz _ _ hcap) hset λm' φ' w' hev hsr=>?_
 obtain⟨v,h1,h2⟩:=hr m' φ' a w' hsr (hi.env.mono hev.pre hev.fz)
 exact⟨v,h1,v,r,st',m',φ',rfl,hQ,hi.ev.trans hev,hsr,h2⟩
end
theorem oO{P:Program}{f:FuncId}{fn:Func}{c:Code}{asz:List AV}{st:List AO}{Q:AV→List AO→Prop}{n:Nat}(hf:P.funcs[f]? =some fn)(hname:(fn.name== "runtime.NumGoroutine")=false)
  (hb:fn.body=some c)(hn:fn.ntmps=n)(hle:Nat.ble asz.length n=true)(h:∀m φ w,m.length=st.length→WC P ⟨m,φ,w,n,none,some []⟩ c (.fin fn Q) (dX 0 asz) st):Ctr P f asz st Q:=by
 refine⟨⟨fn,hf,hname,by simp[hb]⟩,λm φ w vs hs ha=>gc (n:=0) (callsIn_of_wp_marks hf hb trivial ?_)⟩
 have hlen:=aC ha
 refine h m φ w hs.len m φ _ w ⟨hs,Ev.refl m φ w,⟨λt x hx=>?_,hs.gl⟩,?_,rfl⟩
 ·rw[ed] at hx
  simp only[Nat.zero_le,if_true,Nat.sub_zero] at hx
  obtain⟨v,h1,h2⟩:=ce ha hx
  refine⟨v,?_,h2⟩
  have hlt:t<vs.length:=by
   rcases Nat.lt_or_ge t vs.length with h'|h'
   ·exact h'
   ·simp[List.getElem?_eq_none h'] at h1
  rw[Array.getElem?_append_left (by simpa using hlt)]
  simpa using h1
 ·have:=nbT hle
  simp[hn];omega
def Ko.plain:Ko→Bool
 | .fin _ _=>true
 | .seq _ k=>k.plain
 |_=>false
theorem gK{P:Program}{e e':En}(hrd:e'.rd=e.rd)(hev:Ev e.m e.φ e.w e'.m e'.φ e'.w):∀(k:Ko),k.plain=true→∀(x:Exit)(a:Act)(w:World),k.den P e' x a w→k.den P e x a w
 | .fin fn Q,_,x,a,w,h=>by
  have hm:∀en w,cf e' Q en w→cf e Q en w:=λen w ⟨v,r,st,m,φ,h1,h2,h3,h4,h5⟩=>⟨v,r,st,m,φ,h1,h2,hev.trans h3,h4,h5⟩
  unfold Ko.den at h⊢
  rw[hrd] at h
  cases x with
  |normal=>exact LeavesInM.mono hm _ _ _ h
  |ret=>exact LeavesInM.mono hm _ _ _ h
  |panic c=>exact LeavesInM.mono hm _ _ _ h
  |outgrown=>exact hm _ _ h
  |_=>exact h.elim
 | .seq c k,hp,x,a,w,h=>by
  have ih:=gK (P:=P) hrd hev k hp
  unfold Ko.den at h⊢
  cases x with
  |normal=>rw[hrd] at h;exact wpIn_mono h ih
  |_=>exact ih _ _ _ h
theorem jX{r:Option Nat}{P:Program}{ops:Array Oper}{Q Q':Exit→Act→World→Prop}{l2:List Oper}(hn2:∀a w,Q .normal a w→wpListIn (EF r) 0 P ops Q' l2 a w)(hq:∀x a w,x≠ .normal→Q x a w→Q' x a w):
  ∀(l:List Oper),bl l=true→∀(a:Act)(w:World),cN P ops Q l a w→wpListIn (EF r) 0 P ops Q' (l++l2) a w
 |[],_,a,w,h=>hn2 a w h
 |o::l,hn,a,w,h=>by
  have hd:=dk (l:=o::l) (i:=0) (o:=o) hn rfl
  have ih:=jX (r:=r) hn2 hq l (by simp only[bl,Bool.and_eq_true] at hn;exact hn.2)
  rw[List.cons_append]
  unfold cN at h
  unfold wpListIn
  split
  ·rename_i hw
   rw[if_pos hw] at h
   rcases h with h|h
   ·refine fg hd ?_
    unfold Oper.wp at h⊢
    generalize(execOp a.eval o).run P w=x at h⊢
    cases x with
    |ok nx w'=>
     cases nx with
     |value v=>exact ih _ _ h
     |skip=>exact ih _ _ h
     |defer d=>exact ih _ _ h
     |enter f args=>
      refine Calls.mono h ?_
      intro en w'' he
      cases en with
      |returned v=>exact ih _ _ he
      |panicked c=>exact hq _ _ _ sM he
      |outgrown=>obtain⟨a0,w0,h0⟩:=he;exact⟨a0,w0,hq _ _ _ sM h0⟩
     |row rw args=>exact λc cs=>let ⟨v,w2,h1,h2⟩:=h c cs;⟨v,w2,ih _ _ h1,h2⟩
     |_=>exact h.elim
    |halt hh w'=>cases hh<;>first|exact hq _ _ _ sM h|exact h.elim
   ·refine fQ hd ?_
    obtain⟨l',f,tmps,asg,body,w',h1,h2⟩:=h
    exact⟨l',f,tmps,asg,body,w',h1,h2.mono λen w'' ⟨v,e1,e2⟩=>⟨v,e1,ih _ _ e2⟩⟩
  ·rename_i hw
   rw[if_neg hw] at h
   exact⟨λ_ _=>trivial,ih _ _ h⟩
theorem qF{P:Program}{k:Ko}{env:Env}{st:List AO}{id:Nat}{l:List Oper}{x:Operand}{f:FuncId}{caps:List AV}{ty:TypeId}{pos:String}{after:Array Edge}{m0 φ0 w0 n}{xs:List Oper}
  (hxs:xs=l++ [⟨none, .defer ⟨.value x, #[], #[]⟩,ty,pos,after,none⟩])(hk:k.plain=true)(hnd:bl l=true)
  (h:WL P ⟨m0,φ0,w0,n,none,some []⟩ xs.toArray l env st λenv' st'=>opv env' x=some (.fn (.func f) [] caps)∧∀m φ w vs,m.length=st'.length→RAs m φ w caps vs→WE P ⟨m,φ,w,n,none,some [dfr f vs]⟩ .normal k env' st'):
  WC P ⟨m0,φ0,w0,n,none,some []⟩ (.region id xs.toArray false) k env st:=λm φ a w hi=>by
 refine wpIn_region_lit ?_
 subst hxs
 refine jX (Q:=jT _ _) ?_ (λx a w hx ⟨h1,_⟩=>absurd h1 hx) l hnd a w (h m φ a w hi)
 rintro a' w' ⟨_,env',st',m',φ',⟨hx,hE⟩,hi'⟩
 have hv:=aA hi'.env hx
 simp only[RA] at hv
 obtain⟨fs,cs,h1,h2,h3⟩:=hv
 simp only[RAs] at h2
 subst h2
 have hd:a'.defers=[]:=hi'.df
 have hrun:(execOp a'.eval (⟨none, .defer ⟨.value x, #[], #[]⟩,ty,pos,after,none⟩:Oper)).run P w'= .ok (.defer (dfr f cs)) w':=by
  simp[execOp,resolve,h1,Deferred.ofValue]
 unfold wpListIn
 rw[if_pos (by simp[Region.wanted])]
 refine⟨λ_ _=>trivial,?_⟩
 show Oper.uponIn _ _ _ _ _ _ _ ((execOp a'.eval (⟨none, .defer ⟨.value x, #[], #[]⟩,ty,pos,after,none⟩:Oper)).run P w')
 rw[hrun]
 show Ko.den P ⟨m0,φ0,w0,n,none,some []⟩ k .normal _ w'
 refine gK (e:=⟨m0,φ0,w0,n,none,some []⟩) (e':=⟨m',φ',w',n,none,some [dfr f cs]⟩) rfl hi'.ev k hk .normal _ _ (hE m' φ' w' cs hi'.sr.len h3 m' φ' _ w' ⟨hi'.sr,Ev.refl _ _ _,⟨hi'.env.get,hi'.env.gl⟩,hi'.sz,?_⟩)
 show dfr f cs::a'.defers=[dfr f cs]
 rw[hd]
end Go.Sk
namespace Go.Sk
open Go.RowKit (Below)
section
variable{P:Program}{e:En}{l:List Oper}{rs:List AV}{base:Env}{sts:Nat→List AO}{es:List Nat}
theorem rO(n:Nat)(hnf:bl l=true){tc:List (List Nat)}{plan:List (List Nat×List Nat×List Nat)}{Q:Exit→Act→World→Prop}(hok:gI l tc es plan=true)(hrs:rs.length=l.length)(hn:l.length=n+1)(hafter:((List.range n).all λj=>(tc.getD n []).contains j)=true)(hobs:Obs P e l rs base sts es 0 (l.take n) plan)
  (hlast:∀a w,At e l rs base sts es (λk=>Nat.blt k n) a w→wpOpIn (EF e.rd) 0 P l.toArray Q n (λa' w'=>Q .normal a' w') a w):
  ∀(f:Nat)(listed:Array Bool)(a:Act)(w:World),listed.size=l.length→Lof listed n=false→qm l (Lof listed)→listed.toList.count false≤f→At e l rs base sts es (Lof listed) a w→wpAnyIn (EF e.rd) 0 P .any l.toArray Q f listed a w:=by
 have htc:sm l tc=true:=by simp only[gI,Bool.and_eq_true] at hok;exact hok.1.1.1.1.1
 have rdy:∀(listed:Array Bool)(i:Nat),listed.size=l.length→i∈Region.ready .any l.toArray listed→∃o,l[i]? =some o∧Lof listed i=false∧listed[i]? =some false∧∀e∈o.after,Region.binds .any e=true→Lof listed e.on=true:=by
  intro listed i hsz hi
  obtain⟨h0,o,ho,hall⟩:=mem_ready.1 hi
  have hil:i<listed.size:=by
   rcases Nat.lt_or_ge i listed.size with h|h
   ·exact h
   ·simp[Array.getD,Nat.not_lt.2 h] at h0
  have h1:listed[i]? =some false:=by
   rw[Array.getElem?_eq_getElem hil]
   simp[Array.getD,hil] at h0
   rw[h0]
  exact⟨o,by simpa using ho,by simp[Lof,Array.getD_eq_getD_getElem?,h1],h1,λe he hb=>hall e he hb⟩
 have full:∀(listed:Array Bool),listed.size=l.length→Region.ready .any l.toArray listed=[]→∀k,k<l.length→Lof listed k=true:=by
  intro listed hsz hr k
  induction k using Nat.strongRecOn with
  |_ k ih=>
   intro hk
   cases hLk:Lof listed k with
   |true=>rfl
   |false=>
    exfalso
    have hok':l[k]? =some l[k]:=geG hk
    have:k∈Region.ready .any l.toArray listed:=by
     refine mem_ready.2 ⟨?_,l[k],by simp[hk],λe he hb=>?_⟩
     ·have hks:k<listed.size:=oM
      simp only[Lof,Array.getD,hks,dif_pos] at hLk⊢
      exact hLk
     ·have h1:=List.all_eq_true.1 htc k (List.mem_range.2 hk)
      simp only[hok',Bool.and_eq_true] at h1
      have h2:=List.all_eq_true.1 h1.1 e (Array.mem_toList_iff.2 he)
      simp only[hb,Bool.not_true,Bool.false_or] at h2
      have hlt:e.on<k:=by simpa[Nat.blt_eq] using h2
      exact ih e.on hlt oM
    rw[hr] at this;cases this
 intro f
 induction f with
 |zero=>
  intro listed a w hsz hLn hdn hcn hat
  have hr:Region.ready .any l.toArray listed=[]:=by
   cases hr:Region.ready .any l.toArray listed with
   |nil=>rfl
   |cons i r=>
    obtain⟨o,_,_,h1,_⟩:=rdy listed i hsz (by rw[hr];exact List.mem_cons_self)
    have:false∈listed.toList:=List.mem_of_getElem? (i:=i) (by simpa using h1)
    have:=List.count_pos_iff.2 this
    omega
  have:=full listed hsz hr n oM
  rw[hLn] at this;cases this
 |succ f ih=>
  intro listed a w hsz hLn hdn hcn hat
  refine⟨λhr=>?_,λi hi=>?_⟩
  ·have:=full listed hsz hr n oM
   rw[hLn] at this;cases this
  obtain⟨o,ho,hLi,hli,hpre⟩:=rdy listed i hsz hi
  have hil:i<listed.size:=(Array.getElem?_eq_some_iff.1 hli).1
  have hLy:∀y,Lof listed y=true→y<l.length:=λy hy=>by
   rcases Nat.lt_or_ge y l.length with h|h
   ·exact h
   ·simp[Lof,Array.getD,Nat.not_lt.2 (by omega:listed.size≤y)] at hy
  by_cases hin:i=n
  ·subst hin
   have hall:∀k,k<i→Lof listed k=true:=λk hk=>iE htc hdn i o ho hpre k (by simpa using List.all_eq_true.1 hafter k (List.mem_range.2 hk))
   have hL:Lof listed=λk=>Nat.blt k i:=by
    funext k
    rcases Nat.lt_trichotomy k i with h|h|h
    ·rw[hall k h];simp[Nat.blt_eq,h]
    ·subst h;rw[hLn]
     cases hb:Nat.blt k k with
     |false=>rfl
     |true=>simp at hb
    ·have:Lof listed k=false:=by simp[Lof,Array.getD,Nat.not_lt.2 (by omega:listed.size≤k)]
     rw[this]
     cases hb:Nat.blt k i with
     |false=>rfl
     |true=>
       have:k<i:=by simpa[Nat.blt_eq] using hb
       omega
   refine wpOpIn_mono (λa' w' hq=>?_) (hlast a w (hL▸hat))
   have hr:Region.ready .any l.toArray (listed.setIfInBounds i true)=[]:=by
    cases hr:Region.ready .any l.toArray (listed.setIfInBounds i true) with
    |nil=>rfl
    |cons j r=>
     obtain⟨o2,ho2,h2,_,_⟩:=rdy (listed.setIfInBounds i true) j (by simpa using hsz) (by rw[hr];exact List.mem_cons_self)
     have hjl:j<l.length:=(giS.1 ho2).1
     by_cases hji:j=i
     ·subst hji;simp[Lof,Array.getD_eq_getD_getElem?,hil] at h2
     ·have h3:=hall j oM
      have:Lof (listed.setIfInBounds i true) j=Lof listed j:=by
       simp only[Lof,Array.getD_eq_getD_getElem?,Array.getElem?_setIfInBounds_ne (Ne.symm hji)]
      rw[this,h3] at h2;cases h2
   cases f with
   |zero=>exact⟨hr,hq⟩
   |succ f=>exact⟨λ_=>hq,λj hj=>by rw[hr] at hj;cases hj⟩
  ·have hother:∀j,j≠i→Lof (listed.setIfInBounds i true) j=Lof listed j:=λj hj=>by
    simp only[Lof,Array.getD_eq_getD_getElem?,Array.getElem?_setIfInBounds_ne (Ne.symm hj)]
   have hself:Lof (listed.setIfInBounds i true) i=true:=by simp[Lof,Array.getD_eq_getD_getElem?,hil]
   have hin':i<n:=by have:=(giS.1 ho).1;omega
   have hstep:=nP (Q':=Q) hnf (L':=Lof (listed.setIfInBounds i true)) hok hrs (λp hp=>mr hobs (by rw[List.getElem?_take,if_pos hin'];exact ho) hp) ho hdn hLy hLi hpre hother hself hat
   refine wpOpIn_mono (λa' w' hat'=>ih _ a' w' (by simpa using hsz) ?_ ?_ ?_ hat') hstep
   ·rw[hother n (Ne.symm hin)];exact hLn
   ·intro k ok hk hLk e he hb
    by_cases hki:k=i
    ·subst hki
     rw[ho] at hk
     simp only[aq] at hk
     subst hk
     have:=hpre e he hb
     by_cases hei:e.on=k
     ·rw[hei];exact hself
     ·rw[hother _ hei];exact this
    ·rw[hother k hki] at hLk
     have:=hdn k ok hk hLk e he hb
     by_cases hei:e.on=i
     ·rw[hei];exact hself
     ·rw[hother _ hei];exact this
   ·have:=iQ (l:=listed.toList) (i:=i) (by simpa using hli)
    rw[Array.toList_setIfInBounds]
    omega
theorem jF{k:Ko}{env:Env}{st:List AO}{id:Nat}(rs:List AV)(tc:List (List Nat))(es:List Nat)(sts:Nat→List AO)(plan:List (List Nat×List Nat×List Nat))(n:Nat){l0:List Oper}{o:Oper}(hl:l=l0++ [o])(hn:Nat.beq l0.length n=true)(hm:P.follows .mixedOrders=true)
  (hok:gI l tc es plan=true)(hrs:Nat.beq rs.length l.length=true)(hafter:((List.range n).all λj=>(tc.getD n []).contains j)=true)(hes:es.all (λy=>Nat.blt y n)=true)(hst:sts 0=st)(hobs:Obs P e l rs env sts es 0 (l.take n) plan)
  (h:WLP P e l.toArray [o] (FL env (λk=>Nat.blt k n) (bU l rs 0)) (sts es.length) (λenv' st'=>WE P e .normal k env' st') (λc env' st'=>WE P e (.panic c) k env' st'))(hnf:bl l=true:=by kernel_rfl):WC P e (.region id l.toArray true) k env st:=λm φ a w hi=>by
 have hn:=nbE hn
 have hll:l.length=n+1:=by rw[hl,List.length_append,hn];rfl
 have ho:l[n]? =some o:=by rw[hl,←hn];simp
 have hno:bl [o]=true:=by
  have:=dk hnf ho
  cases h2:o.op<;>first|exact absurd h2 (this _)|simp[bl,h2]
 have hQ:∀a' w',At e l rs env sts es (λk=>Nat.blt k n) a' w'→wpOpIn (EF e.rd) 0 P l.toArray (k.den P e) n (λa'' w''=>k.den P e .normal a'' w'') a' w':=λa' w' ⟨m',φ',hi'⟩=>by
  rw[pn λy hy=>List.all_eq_true.1 hes y hy] at hi'
  have h2:∀x a w,jv e (λenv' st'=>WE P e .normal k env' st') (λc env' st'=>WE P e (.panic c) k env' st') x a w→k.den P e x a w:=λx a w hx=>by
   rcases hx with⟨rfl,env',st',m',φ',hR,hi'⟩|⟨c,rfl,env',st',m',φ',hR,hi'⟩
   ·exact hR m' φ' a w hi'
   ·exact hR m' φ' a w hi'
  have h0:=gZ (Q':=k.den P e) (l2:=[]) (λa w hx=>h2 _ a w hx) (λx a w _ hx=>h2 x a w hx) [o] a' w' (h m' φ' a' w' hi')
  have h1:=d6 (r:=e.rd) [o] hno a' w' h0
  unfold wpListIn at h1
  unfold wpOpIn
  have ho':l.toArray[n]? =some o:=by simpa using ho
  simp only[ho']
  split
  ·rename_i hw
   rw[if_pos hw] at h1
   exact h1
  ·rename_i hw
   rw[if_neg hw] at h1
   exact h1
 have hz:∀j,Lof (Array.replicate l.toArray.size false) j=false:=λj=>by simp[Lof,Array.getD]
 have hdn:qm l (Lof (Array.replicate l.toArray.size false)):=λk o _ hL=>by rw[hz] at hL;cases hL
 have hat:At e l rs env sts es (Lof (Array.replicate l.toArray.size false)) a { w with drawn:=w.drawn+1 }:=by
  have hc:cnt (Lof (Array.replicate l.toArray.size false)) es=0:=by
   cases es with
   |nil=>rfl
   |cons y es=>simp only[cnt,hz,cdF]
  have hf:∀reg:List (Nat×Nat×AV),FL env (Lof (Array.replicate l.toArray.size false)) reg=env:=by
   intro reg
   induction reg with
   |nil=>rfl
   |cons p reg ih=>obtain⟨j,d,r⟩:=p;simp only[FL,hz,cdF];exact ih
  refine⟨m,φ,?_⟩
  rw[hc,hf,hst]
  exact hi.below ((Below.refl _ _).drew) (hi.env.mono (Pre.refl m) (Fz.refl φ w)) hi.sz rfl
 exact wpIn_region_any hm (rO n hnf (sts:=sts) (base:=env) hok (nbE hrs) hll hafter hobs hQ _ _ a _ sM (hz n) hdn sM hat)
end
end Go.Sk
namespace Go.Sk
end Go.Sk
namespace Go.Sk
open Go.Proofs Go.Shelf
end Go.Sk
namespace Go.Sk
open Go.RowKit (Below)
section
variable{P:Program}{env:Env}{st:List AO}{dst:Option Tmp}{ty:TypeId}{pos:String}{after:Array Edge}{guard:Option (Nat×Bool)}
end
end Go.Sk
namespace Go.Sk
open Go.RowKit (Below)
end Go.Sk
namespace Go.Sk
open Go.RowKit (Below)
section
variable{P:Program}{env:Env}{st:List AO}{dst:Option Tmp}{ty:TypeId}{pos:String}{after:Array Edge}{guard:Option (Nat×Bool)}
end
end Go.Sk
namespace Go.Sk
open Go.RowKit (Below)
open Go.MapKept (run_getObj_map run_setObj_map)
structure KeyS(P:Program){κ:Type}[DecidableEq κ](kt:TypeId)(kf:κ→Value):Prop where
 wide:(match P.underlying kt with|some (.array _ _)|some (.struct _)=>true|_=>false)=true
 chk:∀em k w,(Instr.checkKey em 10000 kt (kf k)).run P w= .ok () w
 eq:∀a b w,(Op.equal kt (kf a) (kf b)).run P w= .ok (decide (a=b)) w
 same:∀a,Instr.sameBits 10000 (kf a) (kf a)=true
section
variable{κ α:Type}[DecidableEq κ]{P:Program}{kt:TypeId}{kf:κ→Value}
theorem eN(hK:KeyS P kt kf)(k:κ):∀(L:List (κ×α))(l:List MapEntry)(i:Nat),l.map (·.key)=L.map (λp=>kf p.1)→
  (cA L k=none∧(∀w:World,(Instr.findAsking kt (kf k) l i).run P w= .ok none w)∧∀v,cq L k v=L++ [(k,v)])∨
  ∃j e x,l[j]? =some e∧L[j]? =some (k,x)∧cA L k=some x∧e.key=kf k∧(∀w:World,(Instr.findAsking kt (kf k) l i).run P w= .ok (some (i+j,e.val)) w)∧∀v,cq L k v=L.set j (k,v)
 |[],[],i,_=> .inl ⟨rfl,by simp[Instr.findAsking],λ_=>rfl⟩
 |p::L,e::l,i,h=>by
  simp only[List.map_cons,List.cons.injEq] at h
  have hr:=λw=>hK.eq k p.1 w
  rw[←h.1] at hr
  by_cases hp:p.1=k
  ·refine .inr ⟨0,e,p.2,rfl,by simp[←hp],by simp[cA,hp],by rw[h.1,hp],?_,λv=>by simp[cq,hp]⟩
   simp[Instr.findAsking,hr,hp]
  ·have hp':¬k=p.1:=λe=>hp e.symm
   rcases eN hK k L l (i+1) h.2 with⟨h1,h2,h3⟩|⟨j,e',x,h1,h2,h3,h4,h5,h6⟩
   ·exact .inl ⟨by simp[cA,hp,h1],by simp[Instr.findAsking,hr,hp',h2],λv=>by simp[cq,hp,h3]⟩
   ·exact .inr ⟨j+1,e',x,by simpa using h1,by simpa using h2,by simp[cA,hp,h3],h4,by simp[Instr.findAsking,hr,hp',h5];omega,λv=>by simp[cq,hp,h6]⟩
 |[],_::_,_,h=>by simp at h
 |_::_,[],_,h=>by simp at h
theorem j6(hK:KeyS P kt kf)(k:κ)(w:World):(Instr.keyThatStays (kf k) (kf k)).run P w= .ok (kf k) w:=by
 simp[Instr.keyThatStays,hK.same k]
end
theorem KeyS.of{P:Program}{κ:Type}[DecidableEq κ]{kt:TypeId}{kf:κ→Value}{ls:κ→List Value}{ks:List LK}(hkf:∀a,kf a= .agg ⟨ls a⟩)(hT:jZ P 100 kt=some ks)(hag:aX P kt=some true)(hw:(match P.underlying kt with|some (.array _ _)|some (.struct _)=>true|_=>false)=true)
  (hc:∀em k w,(Instr.checkKey em 10000 kt (kf k)).run P w= .ok () w)(hf:∀a,cr ks (ls a)=true)(he:∀a b,eqL (ls a) (ls b)=decide (a=b))(hs:∀a,Instr.sameBits 10000 (kf a) (kf a)=true):KeyS P kt kf:=
 ⟨hw,hc,λa b w=>by
  rw[hkf a,hkf b,←he a b]
  exact((ek (P:=P) w 100).1 kt ks 10000 (ls a) (ls b) hT dC (hf a) (hf b)).1 hag,hs⟩
theorem gD{P:Program}{T:TypeId}{d:TypeDesc}(hu:P.underlying T=some d)(hd:fq d=false){cs:Array Value}{off:Nat}{v:Value}(hc:cs[off]? =some v)(w:World):(part T cs off).run P w= .ok v w:=by
 simp only[part,Sem.run_bind,ge ((kp hu).trans (by rw[hd])) w,Result.andThen_ok,Bool.false_eq_true,if_false,hc,Sem.run_pure]
theorem lu{P:Program}{kt:TypeId}{f1 f2:Field}{k1 k2:IntKind}(hu:P.underlying kt=some (.struct #[f1,f2]))(h1:P.underlying f1.type=some (.int k1))(h2:P.underlying f2.type=some (.int k2))(o1:f1.offset=0)(o2:f2.offset=1)(hT:jZ P 100 kt=some [.int k1, .int k2]):
  KeyS P kt (λx:Int×Int=> .agg ⟨[.int k1 x.1, .int k2 x.2]⟩):=
 KeyS.of (ls:=λx:Int×Int=> [.int k1 x.1, .int k2 x.2]) (λ_=>rfl) hT (kp hu) (by rw[hu])
  (λem k w=>by
   have p1:=gD (cs:=⟨[.int k1 k.1, .int k2 k.2]⟩) (off:=f1.offset) (v:= .int k1 k.1) h1 rfl (by rw[o1];rfl) w
   have p2:=gD (cs:=⟨[.int k1 k.1, .int k2 k.2]⟩) (off:=f2.offset) (v:= .int k2 k.2) h2 rfl (by rw[o2];rfl) w
   have c1:∀n,(Instr.checkKey em (n+1) f1.type (.int k1 k.1)).run P w= .ok () w:=λn=>by simp[Instr.checkKey,run_underlying h1]
   have c2:∀n,(Instr.checkKey em (n+1) f2.type (.int k2 k.2)).run P w= .ok () w:=λn=>by simp[Instr.checkKey,run_underlying h2]
   suffices H:∀n,(Instr.checkKey em (n+2) kt (.agg ⟨[.int k1 k.1, .int k2 k.2]⟩)).run P w= .ok () w from H 9998
   intro n
   rw[Instr.checkKey]
   by_cases n1:f1.name= "_"<;>by_cases n2:f2.name= "_"<;>simp[run_underlying hu,Result.andThen,n1,n2,p1,p2,c1,c2])
  (λa=>by simp[cr,LK.fits])
  (λa b=>by
   simp only[eqL,kg,Bool.and_true]
   by_cases e1:a.1=b.1<;>by_cases e2:a.2=b.2<;>simp[e1,e2,Prod.ext_iff])
  (λa=>by simp[Instr.sameBits])
section
variable{P:Program}{env:Env}{st:List AO}{dst:Option Tmp}{ty:TypeId}{pos:String}{after:Array Edge}{guard:Option (Nat×Bool)}
variable{κ α:Type}[DecidableEq κ]
theorem jm{w:World}{T kt et:TypeId}{kf:κ→Value}{b:Nat}{l:List MapEntry}{clock:Nat}{k:κ}{u:Value}{L:List (κ×α)}(hT:P.underlying T=some (.map kt et))(hK:KeyS P kt kf)(hb:w.heap[b]? =some (.map ⟨l⟩ clock))
  (hl:l.map (·.key)=L.map λp=>kf p.1)(v:α):∃l' clock',(Instr.mapUpdate T (.map (some b)) (kf k) u).run P w= .ok () { w with heap:=w.heap.setIfInBounds b (.map ⟨l'⟩ clock') }∧
   l'.map (·.key)=(cq L k v).map (λp=>kf p.1)∧((cq L k v=L++ [(k,v)]∧l'.map (·.val)=l.map (·.val)++ [u])∨∃j,cq L k v=L.set j (k,v)∧l'.map (·.val)=(l.map (·.val)).set j u):=by
 have hfk:=run_findKey_eq (P:=P) w hK.wide (kf k) l
 rcases eN hK k L l 0 hl with⟨h1,h2,h3⟩|⟨j,e,x,h1,h2,h3,h4,h5,h6⟩
 ·rw[h2 w] at hfk
  refine⟨l++ [⟨kf k,u,clock⟩],clock+1,?_,by rw[h3 v];simp[hl], .inl ⟨h3 v,sM⟩⟩
  simp[Instr.mapUpdate,run_underlying hT,MapKept.run_getObj_map hb,hK.chk,hfk,MapKept.run_setObj_map _ hb,Result.andThen]
 ·rw[h5 w] at hfk
  have hj:(⟨l⟩:Array MapEntry)[j]? =some e:=by simpa using h1
  refine⟨l.modify j (λe'=>{ e' with key:=kf k,val:=u }),clock,?_,?_, .inr ⟨j,h6 v,?_⟩⟩
  ·simp[Instr.mapUpdate,run_underlying hT,MapKept.run_getObj_map hb,hK.chk,hfk,h1,h4,j6 hK,MapKept.run_setObj_map _ hb,Result.andThen]
  ·rw[h6 v]
   apply List.ext_getElem?
   intro i
   have hi:=congrArg (λz=>z[i]?) hl
   simp only[List.getElem?_map] at hi
   rw[List.getElem?_map,List.getElem?_map,List.getElem?_modify,List.getElem?_set]
   by_cases hij:j=i
   ·subst hij
    simp[h1,(giS.1 h2).1]
   ·simp[hij];simpa using hi
  ·apply List.ext_getElem?
   intro i
   rw[List.getElem?_map,List.getElem?_modify,List.getElem?_set]
   by_cases hij:j=i
   ·subst hij
    simp[(giS.1 h1).1]
   ·simp[hij]
theorem o9{m φ w a}{ki:Operand}{ka:AV}{vs:List Value}(he:EnvOk m φ w env a)(hk:opv env ki=some ka)(hl:Le ka (.d (.ag (vs.map D.v)))):a.eval ki= .agg ⟨vs⟩:=by
 have ex:=hl _ _ _ _ (aA he hk)
 simp only[RA,RD] at ex
 obtain⟨cs,e1,e2⟩:=ex
 rw[ir e2] at e1
 exact e1
theorem kJ{T kt et:TypeId}{o:Oper}{x ki v:Operand}{id:Nat}(kf:κ→Value)(g:α→AV)(L:List (κ×α)){k:κ}{u:α}{ka:AV}{vs:List Value}(ho:(o=⟨dst, .insert T x ki v,ty,pos,after,guard⟩)∨(o=⟨dst, .mapUpdate T x ki v,ty,pos,after,guard⟩))(hT:P.underlying T=some (.map kt et))(hK:KeyS P kt kf)
  (hx:opv env x=some (.mp id))(hi:st[id]? =some (mpO kf g L))(hk:opv env ki=some ka)(hl:Le ka (.d (.ag (vs.map D.v))))(hkf:kf k= .agg ⟨vs⟩)(hv:opv env v=some (g u)):
  gA P env st o (.d (.v undef)) (st.set id (mpO kf g (cq L k u))):=λm φ a w hs he=>by
 obtain⟨b,h1,h2⟩:=jS he hx
 obtain⟨b',hbb,h0,l,cl,g1,g2,g3⟩:=hs.obj id _ _ hi h1
 simp only[Cz.blk.injEq] at hbb
 subst hbb
 have hkeys:l.map (·.key)=L.map (λp=>kf p.1):=by rw[g2];simp
 obtain⟨l',clock',r1,r2,r3⟩:=jm (P:=P) (k:=k) (u:=a.eval v) (w:=w) hT hK g1 hkeys u
 have hru:=aA he hv
 have hvals:RAs m φ w (((cq L k u).map λp=>(kf p.1,g p.2)).map (·.2)) (l'.map (·.val)):=by
  rw[List.map_map] at g3⊢
  rcases r3 with⟨e1,e2⟩|⟨j,e1,e2⟩
  ·rw[e1,e2,List.map_append];exact aD g3 (aK hru bZ)
  ·rw[e1,e2,List.map_set];exact kw g3 hru
 obtain⟨k1,k2⟩:=q' (clock':=clock') hs hi h1 (by rw[r2];simp) hvals
 refine⟨undef,_,m,φ, .inr ⟨?_,rfl⟩,k1,k2,RAv⟩
 have hkv:=(o9 he hk hl).trans hkf.symm
 rcases ho with rfl|rfl<;>simp[execOp,h2,hkv,r1]
theorem n8{T kt et:TypeId}{x ki:Operand}{id:Nat}(kf:κ→Value)(g:α→AV)(L:List (κ×α)){k:κ}{z:α}{zv:Value}{ka:AV}{vs:List Value}(hT:P.underlying T=some (.map kt et))(hK:KeyS P kt kf)
  (hx:opv env x=some (.mp id))(hi:st[id]? =some (mpO kf g L))(hk:opv env ki=some ka)(hl:Le ka (.d (.ag (vs.map D.v))))(hkf:kf k= .agg ⟨vs⟩)(hz:(P.info? et).bind (·.zero)=some zv)(hgz:g z= .d (.v zv)):
  Yields P env st ⟨dst, .lookup T x ki false,ty,pos,after,guard⟩ (g ((cA L k).getD z)):=λm φ a w hs he=>by
 obtain⟨b,h1,h2⟩:=jS he hx
 obtain⟨b',hbb,h0,l,cl,g1,g2,g3⟩:=hs.obj id _ _ hi h1
 simp only[Cz.blk.injEq] at hbb
 subst hbb
 have hkeys:l.map (·.key)=L.map (λp=>kf p.1):=by rw[g2];simp
 have hkv:=(o9 he hk hl).trans hkf.symm
 have hlt:=cK g1
 cases hinf:P.info? et with
 |none=>simp[hinf] at hz
 |some i=>
  simp only[hinf,bnS] at hz
  rcases eN hK k L l 0 hkeys with⟨q1,q2,_⟩|⟨j,e,y,q1,q2,q3,q4,q5,_⟩
  ·refine⟨zv,by rw[q1,Option.getD_none,hgz];exact RAv,λw' hb=>?_⟩
   have g1':w'.heap[b]? =some (.map ⟨l⟩ cl):=by rw[hb.block b hlt];exact g1
   have hfk:=run_findKey_eq (P:=P) w' hK.wide (kf k) l
   rw[q2 w'] at hfk
   simp[execOp,Instr.lookup,h2,hkv,run_underlying hT,MapKept.run_getObj_map g1',hK.chk,hfk,zeroValue,typeInfo,hinf,hz,Result.andThen]
  ·have hval:RA m φ w (g y) e.val:=by
    have:(((L.map λp=>(kf p.1,g p.2)).map (·.2)))[j]? =some (g y):=by simp[q2]
    obtain⟨v',hv1,hv2⟩:=ce g3 this
    simp only[List.getElem?_map,q1,Option.map_some,aq] at hv1
    rw[hv1];exact hv2
   refine⟨e.val,by rw[q3,Option.getD_some];exact hval,λw' hb=>?_⟩
   have g1':w'.heap[b]? =some (.map ⟨l⟩ cl):=by rw[hb.block b hlt];exact g1
   have hfk:=run_findKey_eq (P:=P) w' hK.wide (kf k) l
   rw[q5 w'] at hfk
   simp[execOp,Instr.lookup,h2,hkv,run_underlying hT,MapKept.run_getObj_map g1',hK.chk,hfk,Result.andThen]
end
end Go.Sk
namespace Go.Sk
open Go.RowKit (Below)
section
variable{P:Program}{env:Env}{st:List AO}{dst:Option Tmp}{ty:TypeId}{pos:String}{after:Array Edge}{guard:Option (Nat×Bool)}
theorem ii{α β:Type}{R:α→List β}{k:Nat}(hR:∀x,(R x).length=k):∀(l:List α)(i:Nat)(z:α),l[i]? =some z→∃r,(l.flatMap R).drop (i*k)=R z++r
 |[],i,z,h=>by simp at h
 |x::l,0,z,h=>by
  simp only[List.getElem?_cons_zero,aq] at h
  subst h
  exact⟨l.flatMap R,sM⟩
 |x::l,i+1,z,h=>by
  obtain⟨r,hr⟩:=ii hR l i z (by simpa using h)
  refine⟨r,?_⟩
  rw[List.flatMap_cons,List.drop_append,hR,Nat.add_mul,Nat.one_mul,Nat.add_sub_cancel,hr,List.drop_eq_nil_of_le (by rw[hR];omega),List.nil_append]
theorem tK{T n k:Nat}{bb:Bool}{x ix:Operand}{α:Type}{R:α→List D}(tab:List α){kk:IntKind}{i:Int}{z:α}(hR:∀x,(R x).length=k)(hT:gd P T=some (n,k,bb))(hx:opv env x=some (.d (.pc (tab.flatMap R))))(hi:opv env ix=some (.d (.v (.int kk i))))(hl:tab.length=n)(h:idx tab i=some z):
  Yields P env st ⟨dst, .indexAddr T x ix,ty,pos,after,guard⟩ (.d (.pc (R z))):=λm φ a w hs he=>by
 obtain⟨v,h1,h2⟩:=gB (dst:=dst) (ty:=ty) (pos:=pos) (after:=after) (guard:=guard) hT hx hi (ae h) (by rw[←hl];exact dw h) m φ a w hs he
 refine⟨v,?_,h2⟩
 simp only[RA,RD] at h1⊢
 obtain⟨b,off,g1,g2⟩:=h1
 refine⟨b,off,g1,?_⟩
 obtain⟨r,hr⟩:=ii hR tab i.toNat z (bB h)
 rw[hr] at g2
 have:=nU k g2
 rwa [←hR z,List.take_left' rfl] at this
end
end Go.Sk
namespace Go.Sk
open Go.RowKit (Below)
section
variable{P:Program}{e:En}{ops:Array Oper}{l rest:List Oper}{K:Ko}{env:Env}{st:List AO}{R:Env→List AO→Prop}{dst:Option Tmp}{ty:TypeId}{pos:String}{after:Array Edge}{guard:Option (Nat×Bool)}
theorem tO{x:Operand}{id off:Nat}{T T' E:TypeId}(hT:P.underlying T=some (.pointer E))(hx:opv env x=some (.pt id off)):Yields P env st ⟨dst, .binOp .eql T x (.const (.pointer none)) T',ty,pos,after,guard⟩ (.d (.v (.bool false))):=λm φ a w _ he=>by
 have h:=aA he hx
 simp only[RA] at h
 obtain⟨b,_,h2⟩:=h
 refine⟨_,RAv,λw' _=>?_⟩
 have hp:P.pointee T=E:=by simp[Program.pointee,hT]
 have hc:a.eval (.const (.pointer none))= .pointer none:=rfl
 simp[execOp,h2,hc,eqGuard,binOp,run_equal_pointer_nil w' T _ (by rw[hp];exact hT)]
theorem oc{x:Operand}{T T' E:TypeId}(hT:P.underlying T=some (.pointer E))(hx:opv env x=some (.d (.v (.pointer none)))):Yields P env st ⟨dst, .binOp .eql T x (.const (.pointer none)) T',ty,pos,after,guard⟩ (.d (.v (.bool true))):=λm φ a w _ he=>by
 have h:=aA he hx
 simp only[RA,RD] at h
 refine⟨_,RAv,λw' _=>?_⟩
 have hp:P.pointee T=E:=by simp[Program.pointee,hT]
 have hc:a.eval (.const (.pointer none))= .pointer none:=rfl
 simp[execOp,h,hc,eqGuard,binOp,run_equal_pointer_nil w' T none (by rw[hp];exact hT)]
theorem ef{T:TypeId}{x:Operand}{oid vo fid ver To n:Nat}{i:Int}(hx:opv env x=some (.pe oid vo (i.toNat*1)))(hs:st[oid]? =some (.os To 1 vo (bg fid ver n)))(hT:aX P T=some false)(hi:i.toNat<n):
  Yields P env st ⟨dst, .load T x,ty,pos,after,guard⟩ (.osf fid i.toNat ver):=ck hx hs hT (by rw[Nat.mul_one];exact rA hi)
theorem kN{α:Type}{E:α→List D}{L:List (List α)}{M:List α}{T n:Nat}{bb:Bool}{x:Operand}{fid j vf T' k:Nat}{c:Call}(hT:aL P T=some (n,bb))(hc:c=⟨.builtin .len, #[x], #[T]⟩)(hx:opv env x=some (.osf fid j vf))(hi:st[fid]? =some (.fam T' k vf (bc E L)))(hj:L[j]? =some M):
  Yields P env st ⟨dst, .call c,ty,pos,after,guard⟩ (.d (.v (.int .i64 M.length))):=λm φ a w hs he=>by
 have h:=aA he hx
 simp only[RA] at h
 obtain⟨v0,ys,h1,h2,h3⟩:=h
 obtain⟨ys',h4,h5,h6,_⟩:=hs.obj _ _ _ hi h1
 simp only[Cz.fam.injEq] at h4
 obtain⟨rfl,rfl⟩:=h4
 have hy:=h3 rfl
 have hess:(bc E L)[j]? =some (M.map (aF E)):=by simp[bc,hj]
 obtain⟨xs,g1,_⟩:=h6 j _ _ hess hy
 obtain⟨t,q1,_,_⟩:=dz hT
 refine⟨_,RAv,λw' _=>?_⟩
 subst hc
 rw[List.length_map] at g1
 rcases g1.2 with⟨h,h'⟩|⟨g,cap,cur,h,_⟩
 ·simp[execOp,resolve,invoke,builtin,Builtin.len_,h,run_underlying q1,goInt,h']
 ·simp[execOp,resolve,invoke,builtin,Builtin.len_,h,run_underlying q1,goInt]
theorem cv{x:Exit}{st':List AO}(hs:st=st')(h:WE P e x K env st'):WE P e x K env st:=hs▸h
theorem su(js:List Nat)(T v fid fv n:Nat):AO.ren js (.os T 1 v (bg fid fv n))= .os T 1 v (bg (js.getD fid 0) fv n):=by
 simp[AO.ren,bg,AV.rens,AV.ren]
theorem sv{α:Type}(js:List Nat)(T k v:Nat)(E:α→List D)(L:List (List α)):AO.ren js (.fam T k v (bc E L))= .fam T k v (bc E L):=by
 simp only[AO.ren,bc,List.map_map,AO.fam.injEq,true_and]
 refine List.map_congr_left λM _=>?_
 have:=qV js 0 0 0 E M
 simp only[AO.ren,AO.os.injEq,true_and] at this
 exact this
theorem pT{k:Ko}{id:Nat}{x:Operand}{f:FuncId}{caps:List AV}{ty:TypeId}{pos:String}{after:Array Edge}{m0 φ0 w0 n}{xs:List Oper}(j:Nat)
  (hxs:xs.drop j=[⟨none, .defer ⟨.value x, #[], #[]⟩,ty,pos,after,none⟩])(hk:k.plain=true)(hnd:bl (xs.take j)=true)
  (h:WL P ⟨m0,φ0,w0,n,none,some []⟩ xs.toArray (xs.take j) env st λenv' st'=>opv env' x=some (.fn (.func f) [] caps)∧∀m φ w vs,m.length=st'.length→RAs m φ w caps vs→WE P ⟨m,φ,w,n,none,some [dfr f vs]⟩ .normal k env' st'):
  WC P ⟨m0,φ0,w0,n,none,some []⟩ (.region id xs.toArray false) k env st:=
 qF (l:=xs.take j) (by rw[←hxs,List.take_append_drop]) hk hnd h
theorem cT{α:Sort _}{b:Bool}{x y z:α}(h:(bif b then x else y)=z):(b=true∧x=z)∨(b=false∧y=z):=by
 cases b
 ·exact .inr ⟨rfl,h⟩
 ·exact .inl ⟨rfl,h⟩
theorem lR{α:Type}{L:List α}{i:Int}{x:α}(h:idx L i=some x):List.set L i.toNat x=L:=by
 have:L[i.toNat]? =some x:=bB h
 obtain⟨h1,h2⟩:=giS.1 this
 rw[←h2];exact List.set_getElem_self h1
end
end Go.Sk
