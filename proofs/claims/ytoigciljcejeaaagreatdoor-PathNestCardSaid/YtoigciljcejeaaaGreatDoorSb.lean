/-
  Maps of our own: keys of one plain kind, the entries in the order of their insertion.
-/
import Derived.MapKept
import Derived.Laws.StructEq
import Derived.Laws.Cover3
import Derived.ProofKit
import Derived.SizedLaws
import Derived.Laws.Pointers
import Derived.Laws.Strings3
import Derived.Laws.DeepStrings4
import Derived.Laws.Strings
import Derived.WideKeyRuns
import Derived.Sort.OwnSortedInts
import Derived.Shelf.Slices.CompactI
import Derived.Test.YtoigciljcejeaaaGreatDoorSa
set_option linter.all false
namespace Go.Sk
open Go.RowKit (Below)
open Go.MapKept (IsKey sameNow_of_keys run_getObj_map run_setObj_map run_checkKey run_findKey run_keyThatStays)
def ac{κ α:Type}[DecidableEq κ]:List (κ×α)->κ->Option α
 |[],_=>none
 |p::r,k=>if p.1=k then some p.2 else ac r k
def ai{κ α:Type}[DecidableEq κ]:List (κ×α)->κ->α->List (κ×α)
 |[],k,v=> [(k,v)]
 |p::r,k,v=>if p.1=k then(k,v)::r else p::ai r k v
structure KeyF{κ:Type}(d:TypeDesc)(kf:κ->Value):Prop where
 key:∀a,IsKey d (kf a)
 inj:∀a b,kf a=kf b->a=b
theorem KeyF.int(k:IntKind):KeyF (.int k) (λx:Int=> .int k x):=⟨λ_=>rfl,λa b h=>by injection h⟩
section
variable{κ α:Type}[DecidableEq κ]{d:TypeDesc}{kf:κ->Value}
theorem dt(hK:KeyF d kf)(k:κ):∀(L:List (κ×α))(l:List MapEntry)(i:Nat),l.map (·.key)=L.map (λp=>kf p.1)->
  (ac L k=none/\Instr.findNow d (kf k) l i=some none/\∀v,ai L k v=L++ [(k,v)])\/
  ∃j e x,l[j]? =some e/\L[j]? =some (k,x)/\ac L k=some x/\e.key=kf k/\Instr.findNow d (kf k) l i=some (some (i+j,e.val))/\∀v,ai L k v=L.set j (k,v)
 |[],[],i,_=> .inl ⟨rfl,rfl,λ_=>rfl⟩
 |p::L,e::l,i,h=>by
  simp only[List.map_cons,List.cons.injEq] at h;obtain⟨r,hr,hiff⟩:=sameNow_of_keys (hK.key k) (h.1▸hK.key p.1:IsKey d e.key);by_cases hp:p.1=k;refine .inr ⟨0,e,p.2,rfl,by simp[<-hp],by simp[ac,hp],by rw[h.1,hp],?_,λv=>by simp[ai,hp]⟩;have:r=true:=hiff.2 (by rw[h.1,hp]);simp[Instr.findNow,hr,this];have hne:r=false:=by
   cases r with
   |false=>rfl
   |true=>exact absurd (hK.inj _ _ ((hiff.1 rfl).trans h.1)).symm hp
  rcases dt hK k L l (i+1) h.2 with⟨h1,h2,h3⟩|⟨j,e',x,h1,h2,h3,h4,h5,h6⟩
  exact .inl ⟨by simp[ac,hp,h1],by simp[Instr.findNow,hr,hne,h2],λv=>by simp[ai,hp,h3]⟩;exact .inr ⟨j+1,e',x,by simpa using h1,by simpa using h2,by simp[ac,hp,h3],h4,by simp[Instr.findNow,hr,hne,h5];omega,λv=>by simp[ai,hp,h6]⟩
 |[],_::_,_,h=>by simp at h
 |_::_,[],_,h=>by simp at h
end
theorem gu{m φ w}:∀{xs:List AV}{vs:List Value}{i:Nat}{y:AV}{u:Value},RAs m φ w xs vs->RA m φ w y u->RAs m φ w (xs.set i y) (vs.set i u)
 |[],vs,i,y,u,h,_=>by simp only[RAs] at h;subst h;simp[RAs]
 |p::xs,vs,i,y,u,h,hy=>by
  simp only[RAs] at h;obtain⟨c,cs,rfl,h1,h2⟩:=h;cases i with
  |zero=>exact aC hy h2
  |succ i=>exact aC h1 (gu h2 hy)
section
variable{P:Program}{env:Env}{st:List AO}{dst:Option Tmp}{ty:TypeId}{pos:String}{after:Array Edge}{guard:Option (Nat×Bool)}
variable{κ α:Type}
abbrev mpO(kf:κ->Value)(g:α->AV)(L:List (κ×α)):AO:= .mp (L.map λp=>(kf p.1,g p.2))
theorem bt{T:TypeId}(kf:κ->Value)(g:α->AV):DoesB P env st ⟨dst, .makeMap T none,ty,pos,after,guard⟩ (.mp st.length) (st++ [mpO kf g []]):=λm φ a w hs he=>by
 have hF:=Fz.alloc hs (.map #[] 0);have hk:∀b,b<w.heap.size->(w.alloc (.map #[] 0)).heap[b]? =w.heap[b]? :=λb hb=>bx hb;have hnew:∀b,(Cz.blk w.heap.size).has b->w.heap.size<=b:=λb hb=>by simp only[Cz.has] at hb;omega
 refine⟨.map (some w.heap.size),w.alloc (.map #[] 0),m++ [.blk w.heap.size],φ,rfl,Ev.push hs hF hk sM rfl rfl rfl hnew,SR.push hs hF hk sM ?_ hnew,?_,(Below.refl _ _).alloc (Nat.le_refl _) _⟩;exact⟨w.heap.size,rfl,hs.lt _ (Nat.le_refl _),[],0,heap_alloc_new w _,rfl,bB,Born.nil⟩;simp only[RA];exact⟨_,by rw[<-hs.len];simp,rfl⟩
variable [DecidableEq κ]
theorem d7{m φ w a}{x:Operand}{id:Nat}(he:EnvOk m φ w env a)(h:opv env x=some (.mp id)):∃b,m[id]? =some (.blk b)/\a.eval x= .map (some b):=by have:=bc he h;simpa[RA] using this
theorem jh{m φ w}{id b:Nat}{es es':List (Value×AV)}{l:List MapEntry}{clock':Nat}(hs:SR m φ st w)(hi:st[id]? =some (.mp es))(hb:m[id]? =some (.blk b))(hkeys:l.map (·.key)=es'.map (·.1))(hv:RAs m φ w (es'.map (·.2)) (l.map (·.val)))(hB:Born l clock'):
  Ev m φ w m φ { w with heap:=w.heap.setIfInBounds b (.map ⟨l⟩ clock') }/\SR m φ (st.set id (.mp es')) { w with heap:=w.heap.setIfInBounds b (.map ⟨l⟩ clock') }:=by
 obtain⟨b',hbb,h0,l0,cl0,h1,h2,h3⟩:=hs.obj id _ _ hi hb;simp only[Cz.blk.injEq] at hbb;subst hbb;have hlt:=bK h1;have hne:∀b2,b2≠b->(w.heap.setIfInBounds b (.map ⟨l⟩ clock'))[b2]? =w.heap[b2]? :=λb2 hn=>by simp[Ne.symm hn]
 have hF:Fz φ w φ { w with heap:=w.heap.setIfInBounds b (.map ⟨l⟩ clock') }:=λb2 off c g1 g2=>⟨g1,by
  have hn:b2≠b:=λe=>by subst e;omega
  rw[cu (w':={ w with heap:=w.heap.setIfInBounds b (.map ⟨l⟩ clock') }) (hne b2 hn)];exact g2⟩
 have hset:m.set id (.blk b)=m:=by apply List.ext_getElem?;intro i;by_cases hii:id=i;subst hii;rw[List.getElem?_set_self (giS.1 hb).1,hb];rw[List.getElem?_set_ne hii]
 have:=dQ (w':={ w with heap:=w.heap.setIfInBounds b (.map ⟨l⟩ clock') }) (φ':=φ) (o':= .mp es') (c':= .blk b) hs hi rfl hb rfl rfl rfl rfl sM (λb2 hb2 hn=>⟨hne b2 (λe=>hn (by rw[e];rfl)),rfl⟩) hF (λb2 hb2=>hs.lt b2 (by simpa using hb2)) (λb2 hb2=> .inl hb2)
  (by rw[hset];exact⟨b,rfl,h0,l,clock',by simp[hlt],hkeys,RAs.mono (Pre.refl m) hF _ _ hv,hB⟩)
 rwa [hset] at this
theorem gQ{w:World}{T kt et:TypeId}{d:TypeDesc}{kf:κ->Value}{b:Nat}{l:List MapEntry}{clock:Nat}{k:κ}{u:Value}{L:List (κ×α)}(hT:P.underlying T=some (.map kt et))(hd:P.underlying kt=some d)(hK:KeyF d kf)(hb:w.heap[b]? =some (.map ⟨l⟩ clock))
  (hl:l.map (·.key)=L.map λp=>kf p.1)(v:α):∃l' clock',(Instr.mapUpdate T (.map (some b)) (kf k) u).run P w= .ok () { w with heap:=w.heap.setIfInBounds b (.map ⟨l'⟩ clock') }/\
   l'.map (·.key)=(ai L k v).map (λp=>kf p.1)/\((ai L k v=L++ [(k,v)]/\l'.map (·.val)=l.map (·.val)++ [u])\/∃j,ai L k v=L.set j (k,v)/\l'.map (·.val)=(l.map (·.val)).set j u)/\(Born l clock->Born l' clock'):=by
 rcases dt hK k L l 0 hl with⟨h1,h2,h3⟩|⟨j,e,x,h1,h2,h3,h4,h5,h6⟩
 refine⟨l++ [⟨kf k,u,clock⟩],clock+1,?_,by rw[h3 v];simp[hl], .inl ⟨h3 v,sM⟩,λhB=>hB.push _ _⟩;simp[Instr.mapUpdate,run_underlying hT,MapKept.run_getObj_map hb,run_checkKey hd (hK.key k),run_findKey hd h2,MapKept.run_setObj_map _ hb,Result.andThen];have hj:(⟨l⟩:Array MapEntry)[j]? =some e:=by simpa using h1
 refine⟨l.modify j (λe'=>{ e' with key:=kf k,val:=u }),clock,?_,?_, .inr ⟨j,h6 v,?_⟩,λhB=>hB.modify _ _ _⟩;simp[Instr.mapUpdate,run_underlying hT,MapKept.run_getObj_map hb,run_checkKey hd (hK.key k),run_findKey hd (by simpa using h5),h1,h4,run_keyThatStays (hK.key k),MapKept.run_setObj_map _ hb,Result.andThen];rw[h6 v];apply List.ext_getElem?;intro i;have hi:=congrArg (λz=>z[i]?) hl;simp only[List.getElem?_map] at hi;rw[List.getElem?_map,List.getElem?_map,List.getElem?_modify,List.getElem?_set];by_cases hij:j=i;subst hij;simp[h1,(giS.1 h2).1];simp[hij];simpa using hi;apply List.ext_getElem?;intro i;rw[List.getElem?_map,List.getElem?_modify,List.getElem?_set];by_cases hij:j=i;subst hij;simp[(giS.1 h1).1];simp[hij]
theorem ba{T kt et:TypeId}{d:TypeDesc}{o:Oper}{x ki v:Operand}{id:Nat}(kf:κ->Value)(g:α->AV)(L:List (κ×α)){k:κ}{u:α}(ho:(o=⟨dst, .insert T x ki v,ty,pos,after,guard⟩)\/(o=⟨dst, .mapUpdate T x ki v,ty,pos,after,guard⟩))(hT:P.underlying T=some (.map kt et))(hd:P.underlying kt=some d)(hK:KeyF d kf)
  (hx:opv env x=some (.mp id))(hi:st[id]? =some (mpO kf g L))(hk:opv env ki=some (.d (.v (kf k))))(hv:opv env v=some (g u)):
  Does P env st o (.d (.v undef)) (st.set id (mpO kf g (ai L k u))):=λm φ a w hs he=>by
 obtain⟨b,h1,h2⟩:=d7 he hx;obtain⟨b',hbb,h0,l,cl,g1,g2,g3,g4⟩:=hs.obj id _ _ hi h1;simp only[Cz.blk.injEq] at hbb;subst hbb;have hkeys:l.map (·.key)=L.map (λp=>kf p.1):=by rw[g2];simp
 obtain⟨l',clock',r1,r2,r3,r4⟩:=gQ (P:=P) (k:=k) (u:=a.eval v) (w:=w) hT hd hK g1 hkeys u;have hru:=bc he hv;have hvals:RAs m φ w (((ai L k u).map λp=>(kf p.1,g p.2)).map (·.2)) (l'.map (·.val)):=by
  rw[List.map_map] at g3⊢;rcases r3 with⟨e1,e2⟩|⟨j,e1,e2⟩
  rw[e1,e2,List.map_append];exact aH g3 (aC hru bB);rw[e1,e2,List.map_set];exact gu g3 hru
 obtain⟨k1,k2⟩:=jh (clock':=clock') hs hi h1 (by rw[r2];simp) hvals (r4 g4);refine⟨undef,_,m,φ, .inr ⟨?_,rfl⟩,k1,k2,RAv⟩;have hkv:=aQ he hk;rcases ho with rfl|rfl<;>simp[execOp,h2,hkv,r1]
theorem bi{T kt et:TypeId}{d:TypeDesc}{x ki:Operand}{id:Nat}(kf:κ->Value)(g:α->AV)(L:List (κ×α)){k:κ}{z:α}{zv:Value}(hT:P.underlying T=some (.map kt et))(hd:P.underlying kt=some d)(hK:KeyF d kf)
  (hx:opv env x=some (.mp id))(hi:st[id]? =some (mpO kf g L))(hk:opv env ki=some (.d (.v (kf k))))(hz:(P.info? et).bind (·.zero)=some zv)(hgz:g z= .d (.v zv)):
  Yields P env st ⟨dst, .lookup T x ki false,ty,pos,after,guard⟩ (g ((ac L k).getD z)):=λm φ a w hs he=>by
 obtain⟨b,h1,h2⟩:=d7 he hx;obtain⟨b',hbb,h0,l,cl,g1,g2,g3,g4⟩:=hs.obj id _ _ hi h1;simp only[Cz.blk.injEq] at hbb;subst hbb;have hkeys:l.map (·.key)=L.map (λp=>kf p.1):=by rw[g2];simp
 have hkv:=aQ he hk;have hlt:=bK g1;cases hinf:P.info? et with
 |none=>simp[hinf] at hz
 |some i=>
  simp only[hinf,bnS] at hz;rcases dt hK k L l 0 hkeys with⟨q1,q2,_⟩|⟨j,e,y,q1,q2,q3,q4,q5,_⟩
  refine⟨zv,by rw[q1,Option.getD_none,hgz];exact RAv,λw' hb=>?_⟩;have g1':w'.heap[b]? =some (.map ⟨l⟩ cl):=by rw[hb.block b hlt];exact g1
  simp[execOp,Instr.lookup,h2,hkv,run_underlying hT,MapKept.run_getObj_map g1',run_checkKey hd (hK.key k),run_findKey hd q2,zeroValue,typeInfo,hinf,hz,Result.andThen];have hval:RA m φ w (g y) e.val:=by
   have:(((L.map λp=>(kf p.1,g p.2)).map (·.2)))[j]? =some (g y):=by simp[q2]
   obtain⟨v',hv1,hv2⟩:=bQ g3 this;simp only[List.getElem?_map,q1,Option.map_some,ao] at hv1;rw[hv1];exact hv2
  refine⟨e.val,by rw[q3,Option.getD_some];exact hval,λw' hb=>?_⟩;have g1':w'.heap[b]? =some (.map ⟨l⟩ cl):=by rw[hb.block b hlt];exact g1
  simp[execOp,Instr.lookup,h2,hkv,run_underlying hT,MapKept.run_getObj_map g1',run_checkKey hd (hK.key k),run_findKey hd q5,Result.andThen]
end
end Go.Sk
namespace Go.Sk
open Go.RowKit (Below)
def FL(base:Env)(L:Nat->Bool):List (Nat×Nat×AV)->Env
 |[]=>base
 |(k,d,r)::rest=>bif L k then(d,r)::FL base L rest else FL base L rest
def cq:List Oper->List AV->Nat->List (Nat×Nat×AV)
 |o::l,r::rs,k=>(match o.dst with|some d=>(k,d,r)::cq l rs (k+1)|none=>cq l rs (k+1))
 |_,_,_=> []
theorem aX(k:Nat)(v:AV)(r:Env)(t:Nat):Env.get ((k,v)::r) t=if t=k then some v else Env.get r t:=by
 conv=>lhs;unfold Env.get
 by_cases h:t=k;subst h;simp;have:Nat.beq t k=false:=by
  cases hb:Nat.beq t k with
  |false=>rfl
  |true=>exact absurd (nbE hb) h
 rw[this,if_neg h];rfl
theorem qa{base:Env}{L:Nat->Bool}{k d:Nat}{r:AV}:∀{reg:List (Nat×Nat×AV)},(reg.map (·.2.1)).Nodup->(k,d,r)∈reg->L k=true->(FL base L reg).get d=some r
 |(j,d',r')::reg,hn,hm,hL=>by
  simp only[List.map_cons,List.nodup_cons] at hn;rcases List.mem_cons.1 hm with h|h
  simp only[Prod.mk.injEq] at h;obtain⟨rfl,rfl,rfl⟩:=h;simp[FL,hL,aX];have hne:d≠d':=λhe=>hn.1 (by subst he;exact List.mem_map.2 ⟨_,h,rfl⟩);have:=qa (base:=base) hn.2 h hL;unfold FL;cases L j;exact this;rw[cdT,aX,if_neg hne];exact this
theorem qP{base:Env}{L:Nat->Bool}{t:Nat}:∀{reg:List (Nat×Nat×AV)},(∀k r,(k,t,r)∈reg->L k=false)->(FL base L reg).get t=base.get t
 |[],_=>rfl
 |(j,d',r')::reg,h=>by
  have ih:=qP (base:=base) (L:=L) (t:=t) (reg:=reg) (λk r hm=>h k r (List.mem_cons_of_mem _ hm));unfold FL;cases hL:L j;exact ih;have hne:t≠d':=λhe=>by
   have:=h j r' (by rw[he];exact List.mem_cons_self);rw[hL] at this;cases this
  rw[cdT,aX,if_neg hne];exact ih
theorem qO{base:Env}{L L':Nat->Bool}{k t:Nat}:∀{reg:List (Nat×Nat×AV)},(∀j,j≠k->L' j=L j)->(∀r,(k,t,r)∉reg)->(FL base L' reg).get t=(FL base L reg).get t
 |[],_,_=>rfl
 |(j,d',r')::reg,h,hk=>by
  have ih:=qO (base:=base) (reg:=reg) h (λr hr=>hk r (List.mem_cons_of_mem _ hr));unfold FL;by_cases hjk:j=k;subst hjk;have hne:t≠d':=λhe=>hk r' (by rw[he];exact List.mem_cons_self);cases L' j<;>cases L j<;>simp only[cdT,cdF,aX,if_neg hne,ih];rw[h j hjk];cases L j;exact ih;rw[cdT,cdT,aX,aX,ih]
theorem mq:∀{l:List Oper}{rs:List AV}{k j d:Nat}{r:AV},(j,d,r)∈cq l rs k->k<=j/\∃o,l[j - k]? =some o/\o.dst=some d/\rs[j - k]? =some r
 |[],rs,k,j,d,r,h=>by simp[cq] at h
 |o::l,[],k,j,d,r,h=>by simp[cq] at h
 |o::l,r0::rs,k,j,d,r,h=>by
  unfold cq at h;have key:(j,d,r)∈cq l rs (k+1)->k<=j/\∃o',(o::l)[j - k]? =some o'/\o'.dst=some d/\(r0::rs)[j - k]? =some r:=λh=>by
   obtain⟨h1,o',h2,h3,h4⟩:=mq h;have:j - k=(j - (k+1))+1:=oM;exact⟨oM,o',by rw[this];simpa using h2,h3,by rw[this];simpa using h4⟩
  split at h;rename_i d0 hd;rcases List.mem_cons.1 h with h|h
  simp only[Prod.mk.injEq] at h;obtain⟨rfl,rfl,rfl⟩:=h;exact⟨Nat.le_refl _,o,sM,hd,sM⟩;exact key h;exact key h
theorem i8:∀{l:List Oper}{rs:List AV}{k j d:Nat}{r:AV}{o:Oper},l[j]? =some o->o.dst=some d->rs[j]? =some r->(k+j,d,r)∈cq l rs k
 |[],rs,k,j,d,r,o,h,_,_=>by simp at h
 |o0::l,[],k,j,d,r,o,_,_,h=>by simp at h
 |o0::l,r0::rs,k,0,d,r,o,h1,h2,h3=>by
  simp only[List.getElem?_cons_zero,ao] at h1 h3;subst h1;subst h3;simp[cq,h2]
 |o0::l,r0::rs,k,j+1,d,r,o,h1,h2,h3=>by
  have:=i8 (k:=k+1) (by simpa using h1:l[j]? =some o) h2 (by simpa using h3:rs[j]? =some r);rw[show k+(j+1)=k+1+j by omega];unfold cq;split;exact List.mem_cons_of_mem _ this;exact this
def vt(ops:List Oper)(tc:List (List Nat)):Bool:=
 (List.range ops.length).all λk=>match ops[k]? with
  |none=>false
  |some o=>(o.after.toList.all λe=> !(Region.binds .any e)||Nat.blt e.on k)&&
   (tc.getD k []).all λj=>o.after.toList.any λe=>Region.binds .any e&&(Nat.beq e.on j||(tc.getD e.on []).contains j)
def uO(ops:List Oper)(L:Nat->Bool):Prop:=∀(k:Nat)(o:Oper),ops[k]? =some o->L k=true->∀e∈o.after,Region.binds .any e=true->L e.on=true
theorem me{ops:List Oper}{tc:List (List Nat)}(hok:vt ops tc=true){L:Nat->Bool}(hd:uO ops L):∀(k:Nat)(o:Oper),ops[k]? =some o->(∀e∈o.after,Region.binds .any e=true->L e.on=true)->∀j∈tc.getD k [],L j=true:=by
 intro k;induction k using Nat.strongRecOn with
 |_ k ih=>
  intro o ho hall j hj;have hk:k<ops.length:=(giS.1 ho).1;have h1:=List.all_eq_true.1 hok k (List.mem_range.2 hk);simp only[ho,Bool.and_eq_true] at h1;have h2:=List.any_eq_true.1 (List.all_eq_true.1 h1.2 j hj);obtain⟨e,he,h3⟩:=h2;simp only[Bool.and_eq_true,Bool.or_eq_true] at h3;have hea:e∈o.after:=Array.mem_toList_iff.1 he;have hL:=hall e hea h3.1;rcases h3.2 with h4|h4
  rw[<-nbE h4];exact hL;have h5:=List.all_eq_true.1 h1.1 e he;simp only[h3.1,Bool.not_true,Bool.false_or] at h5;have hlt:e.on<k:=by simpa[Nat.blt_eq] using h5
  cases hoe:ops[e.on]? with
  |none=>exact absurd (List.getElem?_eq_none_iff.1 hoe) oM
  |some o'=>exact ih e.on hlt o' hoe (λe' he' hb=>hd e.on o' hoe hL e' he' hb) j (by simpa using h4)
def cnt(L:Nat->Bool):List Nat->Nat
 |[]=>0
 |e::es=>bif L e then cnt L es+1 else 0
def eko(l:List Oper)(rs:List AV)(j:Nat):Option (Nat×AV):=match l[j]?,rs[j]? with
 |some o,some r=>o.dst.map λd=>(d,r)
 |_,_=>none
def ekB(base:Env):List Nat->Env
 |x::bk=>(match base.get x with|some v=>(x,v)::ekB base bk|none=>ekB base bk)
 |[]=> []
def ekP(l:List Oper)(rs:List AV)(tail:Env):List Nat->Env
 |j::pk=>(match eko l rs j with|some p=>p::ekP l rs tail pk|none=>ekP l rs tail pk)
 |[]=>tail
def iD(l:List Oper)(rs:List AV)(base:Env)(pk bk:List Nat):Env:=ekP l rs (ekB base bk) pk
def Ob(P:Program)(e:En)(l:List Oper)(rs:List AV)(base:Env)(sts:Nat->List AO)(k:Nat)(o:Oper)(pk bk:List Nat)(c c':Nat):Prop:=
 ∀F:Env,WL P e l.toArray [o] (iD l rs base pk bk++F) (sts c) λenv' st'=>st'=sts c'/\∃pre,env'=pre++(iD l rs base pk bk++F)/\
  (∀t x,pre.get t=some x->o.dst=some t)/\∀d r,o.dst=some d->rs[k]? =some r->pre.get d=some r
def ObC(P:Program)(e:En)(l:List Oper)(rs:List AV)(base:Env)(sts:Nat->List AO)(k:Nat)(o:Oper)(pk bk:List Nat)(up:Bool):List Nat->Prop
 |[]=>True
 |c::cs=>Ob P e l rs base sts k o pk bk c (bif up then c+1 else c)/\ObC P e l rs base sts k o pk bk up cs
def Obs(P:Program)(e:En)(l:List Oper)(rs:List AV)(base:Env)(sts:Nat->List AO)(es:List Nat):Nat->List Oper->List (List Nat×List Nat×List Nat)->Prop
 |k,o::ol,p::ps=>ObC P e l rs base sts k o p.1 p.2.1 (es.contains k) p.2.2/\Obs P e l rs base sts es (k+1) ol ps
 |_,_,_=>True
theorem qN{P e l rs base sts k o pk bk up}:∀{cs:List Nat},ObC P e l rs base sts k o pk bk up cs->∀c∈cs,Ob P e l rs base sts k o pk bk c (bif up then c+1 else c)
 |c::cs,h,c',hc=>by
  rcases List.mem_cons.1 hc with rfl|hc
  exact h.1;exact qN h.2 c' hc
theorem qM{P e l rs base sts es}:∀{ol:List Oper}{ps:List (List Nat×List Nat×List Nat)}{k j:Nat}{o:Oper}{p:List Nat×List Nat×List Nat},Obs P e l rs base sts es k ol ps->ol[j]? =some o->ps[j]? =some p->ObC P e l rs base sts (k+j) o p.1 p.2.1 (es.contains (k+j)) p.2.2
 |o0::ol,p0::ps,k,0,o,p,h,h1,h2=>by
  simp only[List.getElem?_cons_zero,ao] at h1 h2;subst h1;subst h2;exact h.1
 |o0::ol,p0::ps,k,j+1,o,p,h,h1,h2=>by
  have:=qM h.2 (by simpa using h1:ol[j]? =some o) (by simpa using h2:ps[j]? =some p);rw[show k+(j+1)=k+1+j by omega];exact this
 |[],_,_,_,_,_,_,h1,_=>by simp at h1
 |_::_,[],_,_,_,_,_,_,h2=>by simp at h2
def hO:List Nat->Bool
 |[]=>true
 |x::l=> !(l.contains x)&&hO l
theorem eI:∀{l:List Nat},hO l=true->l.Nodup
 |[],_=>List.nodup_nil
 |x::l,h=>by
  simp only[hO,Bool.and_eq_true,Bool.not_eq_true',List.contains_eq_mem,decide_eq_false_iff_not] at h;exact List.nodup_cons.2 ⟨h.1,eI h.2⟩
def lm(l:List Oper)(tc:List (List Nat))(es:List Nat)(plan:List (List Nat×List Nat×List Nat)):Bool:=
 vt l tc&&hO (l.filterMap (·.dst))&&hO es&&Nat.beq plan.length l.length&&
 ((List.range es.length).all λi=>match es[i]?,es[i+1]? with|some x,some y=>(tc.getD y []).contains x|_,_=>true)&&
 (List.range l.length).all λk=>match plan[k]? with
  |none=>false
  |some (pk,bk,cs)=>(pk.all λj=>(tc.getD k []).contains j)&&(!(es.contains k)||cs.all λc=>es[c]? ==some k)&&
   (bk.all λx=>(List.range l.length).all λj=>match l[j]? with|some o=> !(o.dst==some x)||Nat.beq j k||(tc.getD j []).contains k|none=>true)&&
   (List.range (es.length+1)).all λc=>cs.contains c||(match es[c]? with|some y=>(tc.getD k []).contains y|none=>false)||
    (es.take c).any λy=>Nat.beq y k||(tc.getD y []).contains k
theorem s8{l:List Oper}{rs:List AV}{j t:Nat}{x:AV}(h:eko l rs j=some (t,x)):(j,t,x)∈cq l rs 0:=by
 unfold eko at h;split at h;rename_i o r h1 h2;cases hd:o.dst with
 |none=>simp[hd] at h
 |some d=>simp only[hd,Option.map_some,ao,Prod.mk.injEq] at h;obtain⟨rfl,rfl⟩:=h;have:=i8 (k:=0) h1 hd h2;simpa using this
 cases h
theorem gp{base:Env}{t:Nat}{x:AV}:∀{bk:List Nat},(ekB base bk).get t=some x->t∈bk/\base.get t=some x
 |y::bk,h=>by
  unfold ekB at h;split at h;rename_i v hv;rw[aX] at h;split at h;rename_i htd;simp only[ao] at h;subst h;subst htd;exact⟨List.mem_cons_self,hv⟩;exact⟨List.mem_cons_of_mem _ (gp h).1,(gp h).2⟩;exact⟨List.mem_cons_of_mem _ (gp h).1,(gp h).2⟩
 |[],h=>by simp[ekB,Env.get] at h
theorem np{l:List Oper}{rs:List AV}{base:Env}{t:Nat}{x:AV}{bk:List Nat}:∀{pk:List Nat},(iD l rs base pk bk).get t=some x->(∃j∈pk,(j,t,x)∈cq l rs 0)\/(t∈bk/\base.get t=some x)
 |j::pk,h=>by
  unfold iD ekP at h;split at h;rename_i p hp;obtain⟨d,r⟩:=p;rw[aX] at h;split at h;rename_i htd;simp only[ao] at h;subst h;subst htd;exact .inl ⟨j,List.mem_cons_self,s8 hp⟩;rcases np (pk:=pk) h with⟨j',h1,h2⟩|h1
  exact .inl ⟨j',List.mem_cons_of_mem _ h1,h2⟩;exact .inr h1;rcases np (pk:=pk) h with⟨j',h1,h2⟩|h1
  exact .inl ⟨j',List.mem_cons_of_mem _ h1,h2⟩;exact .inr h1
 |[],h=> .inr (gp h)
theorem oY{L:Nat->Bool}:∀{es:List Nat},∀y∈es.take (cnt L es),L y=true
 |[],y,h=>by simp[cnt] at h
 |e::es,y,h=>by
  unfold cnt at h;cases hL:L e with
  |false=>simp[hL] at h
  |true=>
   rw[hL,cdT,List.take_succ_cons] at h;rcases List.mem_cons.1 h with rfl|h
   exact hL;exact oY y h
theorem o5{L:Nat->Bool}:∀{es:List Nat}{y:Nat},es[cnt L es]? =some y->L y=false
 |[],y,h=>by simp[cnt] at h
 |e::es,y,h=>by
  unfold cnt at h;cases hL:L e with
  |false=>simp only[hL,cdF,List.getElem?_cons_zero,ao] at h;rw[<-h];exact hL
  |true=>simp only[hL,cdT,List.getElem?_cons_succ] at h;exact o5 h
theorem tj{L:Nat->Bool}:∀{es:List Nat},cnt L es<=es.length
 |[]=>Nat.le_refl _
 |e::es=>by unfold cnt;cases L e<;>simp[tj]
theorem mA{L L':Nat->Bool}{k:Nat}(h:∀j,j≠k->L' j=L j):∀{es:List Nat},k∉es->cnt L' es=cnt L es
 |[],_=>rfl
 |e::es,hk=>by
  have h1:e≠k:=λhe=>hk (by rw[he];exact List.mem_cons_self);unfold cnt;rw[h e h1,mA h (λhm=>hk (List.mem_cons_of_mem _ hm))]
theorem oZ{L L':Nat->Bool}{k:Nat}(h:∀j,j≠k->L' j=L j)(hk:L k=false)(hk':L' k=true):∀{es:List Nat},es.Nodup->es[cnt L es]? =some k->(∀y,es[cnt L es+1]? =some y->L y=false)->cnt L' es=cnt L es+1
 |[],_,h1,_=>by simp at h1
 |e::es,hn,h1,h2=>by
  obtain⟨n1,n2⟩:=List.nodup_cons.1 hn;cases hL:L e with
  |true=>
   have hek:e≠k:=λhe=>by subst he;rw[hk] at hL;cases hL
   have e1:cnt L (e::es)=cnt L es+1:=by simp[cnt,hL]
   rw[e1] at h1 h2⊢;have:=oZ h hk hk' n2 (by simpa using h1) (λy hy=>h2 y (by simpa using hy));simp[cnt,h e hek,hL,this]
  |false=>
   have e1:cnt L (e::es)=0:=by simp[cnt,hL]
   rw[e1] at h1 h2⊢;simp only[List.getElem?_cons_zero,ao] at h1;subst h1;have:cnt L' es=0:=by
    cases es with
    |nil=>rfl
    |cons y es=>have hy:=h2 y sM;have hne:y≠e:=λhe=>n1 (by rw[he];exact List.mem_cons_self);simp[cnt,h y hne,hy]
   simp[cnt,hk',this]
theorem ur{es:List Nat}:∀{L:Nat->Bool},(∀y∈es,L y=true)->cnt L es=es.length:=by
 induction es with
 |nil=>intros;rfl
 |cons e es ih=>intro L h;simp[cnt,h e List.mem_cons_self,ih (λy hy=>h y (List.mem_cons_of_mem _ hy))]
theorem my:∀{l:List Bool}{i:Nat},l[i]? =some false->(l.set i true).count false+1=l.count false
 |[],i,h=>by simp at h
 |b::l,0,h=>by simp only[List.getElem?_cons_zero,ao] at h;subst h;simp
 |b::l,i+1,h=>by
  have:=my (l:=l) (i:=i) (by simpa using h);cases b<;>simp<;>omega
section
variable{P:Program}{e:En}{l:List Oper}{rs:List AV}{base:Env}{sts:Nat->List AO}{es:List Nat}
def At(e:En)(l:List Oper)(rs:List AV)(base:Env)(sts:Nat->List AO)(es:List Nat)(L:Nat->Bool)(a:Act)(w:World):Prop:=
 ∃m φ,Inv e m φ (FL base L (cq l rs 0)) (sts (cnt L es)) a w
theorem pC{r:Option Nat}{Q':Exit->Act->World->Prop}{k:Nat}{o:Oper}{env:Env}{st:List AO}{R:Env->List AO->Prop}{m φ a w}{K:Act->World->Prop}(hnd:cv l=true)(ho:l[k]? =some o)(h:WL P e l.toArray [o] env st R)(hi:Inv e m φ env st a w)
  (hK:∀a' w' env' st' m' φ',R env' st'->Inv e m' φ' env' st' a' w'->K a' w'):wpOpIn (EF r) 0 P l.toArray Q' k K a w:=by
 have h1:=h m φ a w hi;have ho':l.toArray[k]? =some o:=by simpa using ho
 unfold wpOpIn;simp only[ho'];unfold d5 at h1;have key:∀(a':Act)(w':World),d5 P l.toArray (sk e R) [] a' w'->K a' w':=by rintro a' w' ⟨_,env',st',m',φ',hR,hi'⟩;exact hK a' w' env' st' m' φ' hR hi'
 have hd:=eJ hnd ho;split
 ·rename_i hw;rw[if_pos hw] at h1;rcases h1 with h1|h1
  ·refine Oper.wpIn_mono key (hM hd ?_);unfold Oper.wp at*
   generalize(execOp a.eval o).run P w=rr at*
   cases rr with
   |ok n w'=>
    cases n<;>simp only[Oper.upon] at h1⊢;case value v=>exact h1
    case skip=>exact h1
    case defer d=>exact h1
    case enter g args=>
     refine Calls.mono h1 λen w'' he=>?_;cases en with
     |returned u=>exact he
     |panicked c=>exact absurd he.1 sM
     |outgrown=>obtain⟨_,_,h0⟩:=he;exact absurd h0.1 sM
    case row row args=>exact h1
   |halt x w'=>cases x<;>simp only[Oper.upon] at h1⊢;exact absurd h1.1 sM
  exact Oper.wpIn_mono key (jJ hd h1)
 rename_i hw;rw[if_neg hw] at h1;exact⟨λ_ _=>trivial,key _ _ h1⟩
theorem iZ:∀{l:List Oper}{rs:List AV}{k:Nat},(l.filterMap (·.dst)).Nodup->((cq l rs k).map (·.2.1)).Nodup/\∀d∈(cq l rs k).map (·.2.1),d∈l.filterMap (·.dst)
 |[],rs,k,_=>by simp[cq]
 |o::l,[],k,_=>by simp[cq]
 |o::l,r::rs,k,h=>by
  unfold cq;cases hd:o.dst with
  |none=>simp only[List.filterMap_cons,hd] at h⊢;exact iZ h
  |some d=>
   simp only[List.filterMap_cons,hd] at h⊢;obtain⟨h1,h2⟩:=List.nodup_cons.1 h;obtain⟨h3,h4⟩:=iZ (rs:=rs) (k:=k+1) h2;refine⟨?_,?_⟩;simp only[List.map_cons];exact List.nodup_cons.2 ⟨λhm=>h1 (h4 d hm),h3⟩;intro d' hd';simp only[List.map_cons] at hd';rcases List.mem_cons.1 hd' with rfl|hd'
   exact List.mem_cons_self;exact List.mem_cons_of_mem _ (h4 d' hd')
theorem tp{Q':Exit->Act->World->Prop}(hnf:cv l=true){tc:List (List Nat)}{plan:List (List Nat×List Nat×List Nat)}(hok:lm l tc es plan=true)(hrs:rs.length=l.length)
  {L L':Nat->Bool}{k:Nat}{o:Oper}(hobs:∀p,plan[k]? =some p->ObC P e l rs base sts (0+k) o p.1 p.2.1 (es.contains (0+k)) p.2.2)(ho:l[k]? =some o)(hd:uO l L)(hLn:∀y,L y=true->y<l.length)(hk:L k=false)(hpre:∀e∈o.after,Region.binds .any e=true->L e.on=true)
  (hL:∀j,j≠k->L' j=L j)(hk':L' k=true){a:Act}{w:World}(hat:At e l rs base sts es L a w):
  wpOpIn (EF e.rd) 0 P l.toArray Q' k (λa' w'=>At e l rs base sts es L' a' w') a w:=by
 obtain⟨m,φ,hi⟩:=hat
 simp only[lm,Bool.and_eq_true] at hok;obtain⟨⟨⟨⟨⟨htc,hnd⟩,hne⟩,hpl⟩,hch⟩,hall⟩:=hok;have hkl:k<l.length:=(giS.1 ho).1;have h1:=List.all_eq_true.1 hall k (List.mem_range.2 hkl);cases hp:plan[k]? with
 |none=>simp[hp] at h1
 |some p=>
  obtain⟨pk,bk,cs⟩:=p;simp only[hp,Bool.and_eq_true] at h1;obtain⟨⟨⟨hpk,hself⟩,hbk⟩,hcs⟩:=h1;have hobk:=hobs _ hp;rw[Nat.zero_add] at hobk;have htck:=me htc hd k o ho hpre;have htcl:∀(y:Nat),L y=true->k∉tc.getD y []:=λy hy hm=>by
   have hyl:=hLn y hy;have hoy:l[y]? =some l[y]:=geG hyl;have:=me htc hd y _ hoy (λe' he' hb=>hd y _ hoy hy e' he' hb) k hm;rw[hk] at this;cases this
  have hc:cnt L es∈cs:=by
   have h2:=List.all_eq_true.1 hcs (cnt L es) (List.mem_range.2 (Nat.lt_succ_of_le tj));simp only[Bool.or_eq_true] at h2;rcases h2 with(h2|h2)|h2
   simpa using h2;cases hy:es[cnt L es]? with
   |none=>simp[hy] at h2
   |some y=>simp only[hy] at h2;have:=htck y (by simpa using h2);rw[o5 hy] at this;cases this
   obtain⟨y,hy,h3⟩:=List.any_eq_true.1 h2;have hLy:=oY y hy;simp only[Bool.or_eq_true] at h3;rcases h3 with h3|h3
   rw[nbE h3,hk] at hLy;cases hLy;exact absurd (by simpa using h3) (htcl y hLy)
  have hob:=qN hobk _ hc;have hcnt:cnt L' es=bif es.contains k then cnt L es+1 else cnt L es:=by
   cases hmem:es.contains k with
   |false=>exact mA hL (by simpa using hmem)
   |true=>
    rw[hmem] at hself;simp only[Bool.not_true,Bool.false_or] at hself;have h4:=List.all_eq_true.1 hself _ hc;have h5:es[cnt L es]? =some k:=by simpa using h4
    refine oZ hL hk hk' (eI hne) h5 (λy hy=>?_);have hlt:cnt L es<es.length:=(giS.1 h5).1;have h6:=List.all_eq_true.1 hch (cnt L es) (List.mem_range.2 hlt);simp only[h5,hy] at h6;cases hLy:L y with
    |false=>rfl
    |true=>exact absurd (by simpa using h6) (htcl y hLy)
  have hreg:=iZ (rs:=rs) (k:=0) (eI hnd);have regk:∀(j t:Nat)(x:AV),(j,t,x)∈cq l rs 0->∃o',l[j]? =some o'/\o'.dst=some t/\rs[j]? =some x:=λj t x hm=>by
   obtain⟨_,o',h1,h2,h3⟩:=mq hm;exact⟨o',by simpa using h1,h2,by simpa using h3⟩
  have hek:∀t x,(iD l rs base pk bk).get t=some x->(FL base L (cq l rs 0)).get t=some x:=λt x hx=>by
   rcases np hx with⟨j,hj,hm⟩|⟨hm,hb⟩
   exact qa hreg.1 hm (htck j (by simpa using List.all_eq_true.1 hpk j hj));rw[qP];exact hb;intro j r hjm;obtain⟨o',h2,h3,_⟩:=regk j t r hjm;have h4:=List.all_eq_true.1 (List.all_eq_true.1 hbk t hm) j (List.mem_range.2 (giS.1 h2).1);simp only[h2,h3,beq_self_eq_true,Bool.not_true,Bool.false_or,Bool.or_eq_true] at h4;rcases h4 with h4|h4
   rw[nbE h4];exact hk;cases hLj:L j with
   |false=>rfl
   |true=>exact absurd (by simpa using h4) (htcl j hLj)
  have hsub:Sub (iD l rs base pk bk++FL base L (cq l rs 0)) (FL base L (cq l rs 0)):=λt x hx=>by
   rw[Env.get_append] at hx;cases hg:(iD l rs base pk bk).get t with
   |some y=>rw[hg] at hx;simp only[ao] at hx;subst hx;exact⟨y,hek t y hg,Le.refl y⟩
   |none=>rw[hg] at hx;exact⟨x,hx,Le.refl x⟩
  refine pC hnf ho (hob (FL base L (cq l rs 0))) (hi.sub hsub) ?_;rintro a' w' env' st' m' φ' ⟨rfl,pre,rfl,hp1,hp2⟩ hi';refine⟨m',φ',?_⟩;rw[hcnt];refine hi'.sub (λt x hx=>?_);rw[Env.get_append,Env.get_append];cases hpt:pre.get t with
  |some y=>
   have hdt:=hp1 t y hpt;cases hrk:rs[k]? with
   |none=>exact absurd (List.getElem?_eq_none_iff.1 hrk) oM
   |some r=>have h2:=hp2 t r hdt hrk;rw[hpt] at h2;simp only[ao] at h2;subst h2;have h3:(FL base L' (cq l rs 0)).get t=some y:=qa hreg.1 (by simpa using i8 (k:=0) ho hdt hrk) hk';rw[h3] at hx;simp only[ao] at hx;subst hx;exact⟨y,rfl,Le.refl y⟩
  |none=>
   have h3:(FL base L' (cq l rs 0)).get t=(FL base L (cq l rs 0)).get t:=qO hL (λr hr=>by
    obtain⟨o',h2,h3,h4⟩:=regk k t r hr;rw[ho] at h2;simp only[ao] at h2;subst h2;have:=hp2 t r h3 h4;rw[hpt] at this;cases this)
   rw[h3] at hx;cases hg:(iD l rs base pk bk).get t with
   |some y=>have:=hek t y hg;rw[hx] at this;simp only[ao] at this;subst this;exact⟨x,rfl,Le.refl x⟩
   |none=>exact⟨x,hx,Le.refl x⟩
def Lof(listed:Array Bool)(k:Nat):Bool:=listed.getD k false
theorem uz(hnf:cv l=true){tc:List (List Nat)}{plan:List (List Nat×List Nat×List Nat)}{Q:Exit->Act->World->Prop}(hok:lm l tc es plan=true)(hrs:rs.length=l.length)(hobs:Obs P e l rs base sts es 0 l plan)
  (hQ:∀a w,At e l rs base sts es (λk=>Nat.blt k l.length) a w->Q .normal a w):
  ∀(f:Nat)(listed:Array Bool)(a:Act)(w:World),listed.size=l.length->uO l (Lof listed)->listed.toList.count false<=f->At e l rs base sts es (Lof listed) a w->wpAnyIn (EF e.rd) 0 P .any l.toArray Q f listed a w:=by
 have htc:vt l tc=true:=by simp only[lm,Bool.and_eq_true] at hok;exact hok.1.1.1.1.1
 have rdy:∀(listed:Array Bool)(i:Nat),listed.size=l.length->i∈Region.ready .any l.toArray listed->∃o,l[i]? =some o/\Lof listed i=false/\listed[i]? =some false/\∀e∈o.after,Region.binds .any e=true->Lof listed e.on=true:=by
  intro listed i hsz hi;obtain⟨h0,o,ho,hall⟩:=mem_ready.1 hi;have hil:i<listed.size:=by
   rcases Nat.lt_or_ge i listed.size with h|h
   exact h;simp[Array.getD,Nat.not_lt.2 h] at h0
  have h1:listed[i]? =some false:=by rw[Array.getElem?_eq_getElem hil];simp[Array.getD,hil] at h0;rw[h0]
  exact⟨o,by simpa using ho,by simp[Lof,Array.getD_eq_getD_getElem?,h1],h1,λe he hb=>hall e he hb⟩
 have full:∀(listed:Array Bool),listed.size=l.length->Region.ready .any l.toArray listed=[]->Lof listed=λk=>Nat.blt k l.length:=by
  intro listed hsz hr;have key:∀k,k<l.length->Lof listed k=true:=by
   intro k;induction k using Nat.strongRecOn with
   |_ k ih=>
    intro hk;cases hLk:Lof listed k with
    |true=>rfl
    |false=>
     exfalso;have hok':l[k]? =some l[k]:=geG hk;have:k∈Region.ready .any l.toArray listed:=by
      refine mem_ready.2 ⟨?_,l[k],by simp[hk],λe he hb=>?_⟩;have hks:k<listed.size:=oM;simp only[Lof,Array.getD,hks,dif_pos] at hLk⊢;exact hLk;have h1:=List.all_eq_true.1 htc k (List.mem_range.2 hk);simp only[hok',Bool.and_eq_true] at h1;have h2:=List.all_eq_true.1 h1.1 e (Array.mem_toList_iff.2 he);simp only[hb,Bool.not_true,Bool.false_or] at h2;have hlt:e.on<k:=by simpa[Nat.blt_eq] using h2
      exact ih e.on hlt oM
     rw[hr] at this;cases this
  funext k;rcases Nat.lt_or_ge k l.length with h|h
  rw[key k h];simp[Nat.blt_eq,h];have:Lof listed k=false:=by simp[Lof,Array.getD,Nat.not_lt.2 (by omega:listed.size<=k)]
  rw[this];cases hb:Nat.blt k l.length with
  |false=>rfl
  |true=>
    have:k<l.length:=by simpa[Nat.blt_eq] using hb
    omega
 intro f;induction f with
 |zero=>
  intro listed a w hsz hdn hcn hat
  have hr:Region.ready .any l.toArray listed=[]:=by
   cases hr:Region.ready .any l.toArray listed with
   |nil=>rfl
   |cons i r=>obtain⟨o,_,_,h1,_⟩:=rdy listed i hsz (by rw[hr];exact List.mem_cons_self);have:false∈listed.toList:=List.mem_of_getElem? (i:=i) (by simpa using h1);have:=List.count_pos_iff.2 this;omega
  exact⟨hr,hQ a w (full listed hsz hr▸hat)⟩
 |succ f ih=>
  intro listed a w hsz hdn hcn hat
  refine⟨λhr=>hQ a w (full listed hsz hr▸hat),λi hi=>?_⟩;obtain⟨o,ho,hLi,hli,hpre⟩:=rdy listed i hsz hi;have hil:i<listed.size:=(Array.getElem?_eq_some_iff.1 hli).1;have hother:∀j,j≠i->Lof (listed.setIfInBounds i true) j=Lof listed j:=λj hj=>by
   simp only[Lof,Array.getD_eq_getD_getElem?,Array.getElem?_setIfInBounds_ne (Ne.symm hj)]
  have hself:Lof (listed.setIfInBounds i true) i=true:=by simp[Lof,Array.getD_eq_getD_getElem?,hil]
  have hstep:=tp (Q':=Q) hnf (L':=Lof (listed.setIfInBounds i true)) hok hrs (λp hp=>qM hobs ho hp) ho hdn (λy hy=>by
   rcases Nat.lt_or_ge y l.length with h|h
   exact h;simp[Lof,Array.getD,Nat.not_lt.2 (by omega:listed.size<=y)] at hy) hLi hpre hother hself hat
  refine wpOpIn_mono (λa' w' hat'=>ih _ a' w' (by simpa using hsz) ?_ ?_ hat') hstep;intro k ok hk hLk e he hb;by_cases hki:k=i;subst hki;rw[ho] at hk;simp only[ao] at hk;subst hk;have:=hpre e he hb;by_cases hei:e.on=k;rw[hei];exact hself;rw[hother _ hei];exact this;rw[hother k hki] at hLk;have:=hdn k ok hk hLk e he hb;by_cases hei:e.on=i;rw[hei];exact hself;rw[hother _ hei];exact this;have:=my (l:=listed.toList) (i:=i) (by simpa using hli);rw[Array.toList_setIfInBounds];omega
theorem lY{k:Ko}{env:Env}{st:List AO}{id:Nat}(rs:List AV)(tc:List (List Nat))(es:List Nat)(sts:Nat->List AO)(plan:List (List Nat×List Nat×List Nat))(hm:P.follows .mixedOrders=true)
  (hok:lm l tc es plan=true)(hrs:Nat.beq rs.length l.length=true)(hes:es.all (λy=>Nat.blt y l.length)=true)(hst:sts 0=st)(hobs:Obs P e l rs env sts es 0 l plan)
  (h:WE P e .normal k (FL env (λk=>Nat.blt k l.length) (cq l rs 0)) (sts es.length))(hnf:cv l=true:=by kernel_rfl):WC P e (.region id l.toArray true) k env st:=λm φ a w hi=>by
 have hQ:∀a' w',At e l rs env sts es (λk=>Nat.blt k l.length) a' w'->k.den P e .normal a' w':=λa' w' ⟨m',φ',hi'⟩=>by
  rw[ur λy hy=>List.all_eq_true.1 hes y hy] at hi';exact h m' φ' a' w' hi'
 have hz:∀j,Lof (Array.replicate l.toArray.size false) j=false:=λj=>by simp[Lof,Array.getD]
 have hdn:uO l (Lof (Array.replicate l.toArray.size false)):=λk o _ hL=>by rw[hz] at hL;cases hL
 have hat:At e l rs env sts es (Lof (Array.replicate l.toArray.size false)) a { w with drawn:=w.drawn+1 }:=by
  have hc:cnt (Lof (Array.replicate l.toArray.size false)) es=0:=by
   cases es with
   |nil=>rfl
   |cons y es=>simp only[cnt,hz,cdF]
  have hf:∀reg:List (Nat×Nat×AV),FL env (Lof (Array.replicate l.toArray.size false)) reg=env:=by
   intro reg;induction reg with
   |nil=>rfl
   |cons p reg ih=>obtain⟨j,d,r⟩:=p;simp only[FL,hz,cdF];exact ih
  refine⟨m,φ,?_⟩;rw[hc,hf,hst];exact hi.below ((Below.refl _ _).drew) (hi.env.mono (Pre.refl m) (Fz.refl φ w)) hi.sz rfl
 exact wpIn_region_any hm (uz hnf (sts:=sts) (base:=env) hok (nbE hrs) hobs hQ _ _ a _ sM hdn sM hat)
theorem lu{ops:Array Oper}{env:Env}{st' stc:List AO}{o:Oper}{d:Nat}{r:AV}{k:Nat}(hd:o.dst=some d)(hr:rs[k]? =some r)(hst:st'=stc):
  WL P e ops [] ((d,r)::env) st' (λenv' st''=>st''=stc/\∃pre,env'=pre++env/\(∀t x,pre.get t=some x->o.dst=some t)/\∀d' r',o.dst=some d'->rs[k]? =some r'->pre.get d'=some r'):=
 WL.nil ⟨hst,[(d,r)],rfl,λt x hx=>by
  rw[aX] at hx;split at hx;rename_i h;rw[h];exact hd;simp[Env.get] at hx,λd' r' hd' hr'=>by
  rw[hd] at hd';rw[hr] at hr';simp only[ao] at hd' hr';subst hd';subst hr';simp[aX]⟩
theorem pf{ops:Array Oper}{env:Env}{st' stc:List AO}{o:Oper}{d:Nat}{r r0:AV}{k:Nat}(hd:o.dst=some d)(hr:rs[k]? =some r)(hst:st'=stc):
  WL P e ops [] ((d,r)::(d,r0)::env) st' (λenv' st''=>st''=stc/\∃pre,env'=pre++env/\(∀t x,pre.get t=some x->o.dst=some t)/\∀d' r',o.dst=some d'->rs[k]? =some r'->pre.get d'=some r'):=
 WL.nil ⟨hst,[(d,r),(d,r0)],rfl,λt x hx=>by
  rw[aX,aX] at hx;by_cases h:t=d;rw[h];exact hd;simp[h,Env.get] at hx,λd' r' hd' hr'=>by
  rw[hd] at hd';rw[hr] at hr';simp only[ao] at hd' hr';subst hd';subst hr';simp[aX]⟩
theorem bF{ops:Array Oper}{env:Env}{st' stc:List AO}{o:Oper}{k:Nat}(hd:o.dst=none)(hst:st'=stc):
  WL P e ops [] env st' (λenv' st''=>st''=stc/\∃pre,env'=pre++env/\(∀t x,pre.get t=some x->o.dst=some t)/\∀d' r',o.dst=some d'->rs[k]? =some r'->pre.get d'=some r'):=
 WL.nil ⟨hst,[],rfl,λt x hx=>by simp[Env.get] at hx,λd' r' hd' _=>by rw[hd] at hd';cases hd'⟩
end
end Go.Sk
namespace Go.Sk
open Go.RowKit (Below)
section
variable{P:Program}{e:En}{ops:Array Oper}{l rest:List Oper}{env:Env}{st:List AO}{R:Env->List AO->Prop}{K:Ko}
theorem iP{m φ w}:∀{xs:List AV}{vs:List Value}{i:Nat}{y:AV}{v:Value},RAs m φ w xs vs->vs[i]? =some v->RA m φ w y v->RAs m φ w (xs.set i y) vs
 |[],vs,i,y,v,h,hi,hy=>by simp only[RAs] at h;subst h;simp at hi
 |p::xs,vs,i,y,v,h,hi,hy=>by
  simp only[RAs] at h;obtain⟨c,cs,rfl,h1,h2⟩:=h;cases i with
  |zero=>simp only[List.getElem?_cons_zero,ao] at hi;subst hi;exact aC hy h2
  |succ i=>exact aC h1 (iP h2 (by simpa using hi) hy)
theorem WC.nil_cell{c:Code}(id off T k:Nat){T':TypeId}{cs:List AV}(hs:st[id]? =some (.row T' cs))(hc:cs[off]? =some (.d (.v (.slice none 0 0))))(h:WC P e c K env ((st++ [AO.os T k 0 []]).set id (.row T' (cs.set off (.os st.length 0))))):WC P e c K env st:=λ_m φ a w hi=>
 let ⟨m',hi'⟩:=hi.nil_cell (T:=T) (k:=k) hs hc
 h m' φ a w hi'
end
end Go.Sk
namespace Go.Sk
open Go.RowKit (Below)
def gH(env:Env)(id ver:Nat):List Nat->Prop
 |[]=>True
 |t::ts=>env.get t=some (.os id ver)/\gH env id ver ts
def dh(x:AV):List (Nat×Nat)->List AO->List AO
 |[],st=>st
 |(i,off)::r,st=>dh x r (match st[i]? with|some (.row T cs)=>st.set i (.row T (cs.set off x))|_=>st)
def eR(st:List AO)(id ver:Nat)(x:AV):List (Nat×Nat)->Prop
 |[]=>True
 |(i,off)::r=>∃T cs,st[i]? =some (.row T cs)/\cs[off]? =some (.os id ver)/\eR (st.set i (.row T (cs.set off x))) id ver x r
theorem kB{m φ w}{id ver:Nat}{y:Value}{x:AV}(hm:m[id]? =some (.tok ver y))(hx:RA m φ w x y):∀(l:List (Nat×Nat))(st:List AO),SR m φ st w->eR st id ver x l->SR m φ (dh x l st) w
 |[],st,h,_=>h
 |(i,off)::r,st,h,hc=>by
  obtain⟨T,cs,h1,h2,h3⟩:=hc;simp only[dh,h1];refine kB hm hx r _ ?_ h3;refine h.alter (o:= .row T cs) h1 rfl ?_;rintro c hc2 ⟨b,rfl,q2,vs,q3,q4⟩;obtain⟨v',p1,p2⟩:=bQ q4 h2;simp only[RA] at p2;obtain⟨v0,y0,k1,k2,k3⟩:=p2;rw[hm] at k1;simp only[ao,Cz.tok.injEq] at k1;obtain⟨rfl,rfl⟩:=k1;have:=k3 rfl;subst this;exact⟨b,rfl,q2,vs,q3,iP q4 p1 hx⟩
section
variable{P:Program}{e:En}{ops:Array Oper}{l rest:List Oper}{env:Env}{st:List AO}{R:Env->List AO->Prop}{K:Ko}
theorem Inv.freezeX{m φ a w}{id ver T k:Nat}{ds:List (List D)}(ts:List Nat)(cl:List (Nat×Nat))(hi:Inv e m φ env st a w)(hs:st[id]? =some (.os T k ver (ds.map λe=>e.map AV.d)))
  (ht:gH env id ver ts)(hc:eR (st.set id .dead) id ver (.d (.sl ds)) cl):
  ∃φ',Inv e m φ' (ts.map (λt=>(t, .d (.sl ds)))++env) (dh (.d (.sl ds)) cl (st.set id .dead)) a w:=by
 obtain⟨c,hcm⟩:∃c,m[id]? =some c:=by
  have:id<m.length:=by rw[hi.sr.len];exact(giS.1 hs).1
  exact⟨_,geG this⟩
 obtain⟨y,xs,rfl,_⟩:=hi.sr.obj id _ _ hs hcm;obtain⟨φ',f1,f2,f3⟩:=gG hi.sr hs hcm;have h3:=hi.go f1 f2;refine⟨φ',kB hcm (by simpa[RA] using f3) cl _ h3.sr hc,h3.ev,?_,h3.sz,h3.df⟩;clear hc;refine⟨?_,h3.env.gl⟩;induction ts with
 |nil=>exact h3.env.get
 |cons t ts ih=>
  intro s x hx;simp only[List.map_cons,List.cons_append] at hx;unfold Env.get at hx;cases hb:Nat.beq s t with
  |true=>rw[hb] at hx;simp only[cdT,ao] at hx;subst hx;have:s=t:=nbE hb;subst this;obtain⟨v,g1,g2⟩:=hi.env s _ ht.1;simp only[RA] at g2;obtain⟨v0,y0,k1,k2,k3⟩:=g2;rw[hcm] at k1;simp only[ao,Cz.tok.injEq] at k1;obtain⟨rfl,rfl⟩:=k1;have:=k3 rfl;subst this;exact⟨_,g1,by simpa[RA] using f3⟩
  |false=>rw[hb] at hx;exact ih ht.2 s x hx
theorem WC.freezeX{c:Code}(ts:List Nat)(cl:List (Nat×Nat))(id:Nat){ver T k:Nat}(ds:List (List D)){es:List (List AV)}(hs:st[id]? =some (.os T k ver es))(hes:es=ds.map λe=>e.map AV.d)(ht:gH env id ver ts)(hc:eR (st.set id .dead) id ver (.d (.sl ds)) cl)
  (h:WC P e c K (ts.map (λt=>(t, .d (.sl ds)))++env) (dh (.d (.sl ds)) cl (st.set id .dead))):WC P e c K env st:=λm φ a w hi=>by
 subst hes;obtain⟨φ',hi'⟩:=hi.freezeX ts cl hs ht hc;exact h m φ' a w hi'
theorem WL.freezeX(ts:List Nat)(cl:List (Nat×Nat))(id:Nat){ver T k:Nat}(ds:List (List D)){es:List (List AV)}(hs:st[id]? =some (.os T k ver es))(hes:es=ds.map λe=>e.map AV.d)(ht:gH env id ver ts)(hc:eR (st.set id .dead) id ver (.d (.sl ds)) cl)
  (h:WL P e ops l (ts.map (λt=>(t, .d (.sl ds)))++env) (dh (.d (.sl ds)) cl (st.set id .dead)) R):WL P e ops l env st R:=λm φ a w hi=>by
 subst hes;obtain⟨φ',hi'⟩:=hi.freezeX ts cl hs ht hc;exact h m φ' a w hi'
theorem WE.freezeX{x:Exit}(ts:List Nat)(cl:List (Nat×Nat))(id:Nat){ver T k:Nat}(ds:List (List D)){es:List (List AV)}(hs:st[id]? =some (.os T k ver es))(hes:es=ds.map λe=>e.map AV.d)(ht:gH env id ver ts)(hc:eR (st.set id .dead) id ver (.d (.sl ds)) cl)
  (h:WE P e x K (ts.map (λt=>(t, .d (.sl ds)))++env) (dh (.d (.sl ds)) cl (st.set id .dead))):WE P e x K env st:=λm φ a w hi=>by
 subst hes;obtain⟨φ',hi'⟩:=hi.freezeX ts cl hs ht hc;exact h m φ' a w hi'
end
def kM(b:Nat)(n:Int):Bool:=decide (0<=n)&&decide ((b:Int)*n<=281474976710656)&&decide (n<=maxLen)
section
variable{P:Program}{env:Env}{st:List AO}{dst:Option Tmp}{ty:TypeId}{pos:String}{after:Array Edge}{guard:Option (Nat×Bool)}
theorem gj(z:Array Value):∀n:Nat,0<z.size->(madeCells z (n*z.size)).toList=(List.replicate n z.toList).flatten
 |0,_=>by simp[madeCells]
 |n+1,hz=>by
  apply List.ext_getElem?;intro j;have ih:=congrArg (λl=>l[j - z.size]?) (gj z n hz);simp only[madeCells,Array.toList_map,Array.toList_range,List.getElem?_map] at ih⊢;rw[List.replicate_succ,List.flatten_cons];by_cases hj:j<z.size;rw[List.getElem?_append_left (by simpa using hj),List.getElem?_range (by rw[Nat.succ_mul];omega)];simp[hj,Nat.mod_eq_of_lt hj];rw[List.getElem?_append_right (by simpa using Nat.le_of_not_lt hj)];simp only[Array.length_toList];rw[<-ih];by_cases hj2:j<(n+1)*z.size;rw[List.getElem?_range hj2,List.getElem?_range (by rw[Nat.succ_mul] at hj2;omega)];simp only[Option.map_some];rw[Nat.mod_eq_sub_mod (Nat.le_of_not_lt hj)];rw[List.getElem?_eq_none (by simpa using Nat.le_of_not_lt hj2),List.getElem?_eq_none (by simp only[List.length_range];rw[Nat.succ_mul] at hj2;omega)]
theorem dx{T e k by_:Nat}{kl kc:IntKind}{n:Int}{x y:Operand}{zs:List Value}(hT:cW P T=some (e,k,by_))(hz:aY P e=some zs)(hzl:zs.length=k)(hk:0<k)
  (hx:opv env x=some (.d (.v (.int kl n))))(hy:opv env y=some (.d (.v (.int kc n))))(hok:kM by_ n=true):
  NewOs P env st ⟨dst, .makeSlice T x y,ty,pos,after,guard⟩ e k (List.replicate n.toNat (zs.map λz=> .d (.v z))):=λm φ a w hs he=>by
 obtain⟨i,ht,hi,rfl,rfl⟩:=eC hT;obtain⟨z,hz1,hz2⟩:=fX hz hi;simp only[kM,Bool.and_eq_true,decide_eq_true_eq] at hok;obtain⟨⟨k0,k1⟩,k2⟩:=hok;have hr:=run_make (P:=P) w T e i z ht hi hz1 kl kc n n k0 (Int.le_refl _) k1 (by simp only[maxLen] at k2;omega);have hzs:z.cells.size=i.size:=by rw[hz2];simpa using hzl
 have hfl:(madeCells z.cells (n.toNat*i.size)).toList=(List.replicate n.toNat zs).flatten:=by have:=gj z.cells n.toNat oM;rw[hzs] at this;rw[this,hz2]
 have hF:=Fz.alloc hs (.cells (madeCells z.cells (n.toNat*i.size)) e);have hkk:∀b,b<w.heap.size->(w.alloc (.cells (madeCells z.cells (n.toNat*i.size)) e)).heap[b]? =w.heap[b]? :=λb hb=>bx hb;have hnew:∀b,(Cz.tok 0 (.slice (some ⟨w.heap.size,0,none⟩) n.toNat n.toNat)).has b->w.heap.size<=b:=λb hb=>by simp only[Cz.has,Value.ownBlock,ao] at hb;omega
 refine⟨_,_,by simp only[execOp,aQ he hx,aQ he hy];rw[Sem.run_bind,hr];rfl,Ev.push hs hF hkk sM rfl rfl rfl hnew,SR.push hs hF hkk sM ?_ hnew,(Below.refl _ _).alloc (Nat.le_refl _) _,λb hb=>by simp only[Value.ownBlock,ao] at hb;omega⟩;have hl2:(List.replicate n.toNat zs).flatten.length=n.toNat*i.size:=by rw[<-hfl];simp[size_madeCells]
 have hras:∀j:Nat,RAs (m++ [Cz.tok 0 (.slice (some ⟨w.heap.size,0,none⟩) n.toNat n.toNat)]) φ (w.alloc (.cells (madeCells z.cells (n.toNat*i.size)) e)) (List.replicate j (zs.map λz=>AV.d (.v z))).flatten (List.replicate j zs).flatten:=by
  intro j;induction j with
  |zero=>exact bB
  |succ j ih=>rw[List.replicate_succ,List.replicate_succ,List.flatten_cons,List.flatten_cons];exact aH (dN zs) ih
 refine⟨_,(List.replicate n.toNat zs).flatten,rfl,⟨by rw[hl2];simp, .inr ⟨w.heap.size,n.toNat,_,sM,Nat.zero_le _,heap_alloc_new w _,sM,oM,size_madeCells _ _,?_⟩⟩,hras _,λf hf=>?_,λb hb=>?_⟩;rw[hfl,List.take_of_length_le (by rw[hl2];simp)];rw[(List.mem_replicate.1 hf).2];simpa using hzl;simp only[Value.ownBlock,ao] at hb;exact hs.lt b oM
theorem NewOs.cast{o:Oper}{T k:Nat}{es es':List (List AV)}(h:NewOs P env st o T k es)(he:es=es'):NewOs P env st o T k es':=he▸h
def ELes:List (List AV)->List (List AV)->Prop
 |[],[]=>True
 |x::xs,y::ys=>Les x y/\ELes xs ys
 |_,_=>False
theorem ELes.len:∀{xs ys:List (List AV)},ELes xs ys->xs.length=ys.length
 |[],[],_=>rfl
 |x::xs,y::ys,h=>by simp[ELes.len h.2]
 |[],_::_,h=>h.elim
 |_::_,[],h=>h.elim
theorem Les.len:∀{xs ys:List AV},Les xs ys->xs.length=ys.length
 |[],[],_=>rfl
 |x::xs,y::ys,h=>by simp[Les.len h.2]
 |[],_::_,h=>h.elim
 |_::_,[],h=>h.elim
theorem Les.append:∀{xs ys us vs:List AV},Les xs ys->Les us vs->Les (xs++us) (ys++vs)
 |[],[],_,_,_,k=>k
 |_x::_xs,_y::_ys,_,_,h,k=>⟨h.1,Les.append h.2 k⟩
 |[],_::_,_,_,h,_=>h.elim
 |_::_,[],_,_,h,_=>h.elim
theorem ELes.flat:∀{xs ys:List (List AV)},ELes xs ys->Les xs.flatten ys.flatten
 |[],[],_=>trivial
 |_x::_xs,_y::_ys,h=>Les.append h.1 (ELes.flat h.2)
 |[],_::_,h=>h.elim
 |_::_,[],h=>h.elim
theorem ELes.lens{k:Nat}:∀{xs ys:List (List AV)},ELes xs ys->(∀e∈xs,e.length=k)->∀e∈ys,e.length=k
 |[],[],_,_=>λe he=>by simp at he
 |x::xs,y::ys,h,hk=>λe he=>by
  rcases List.mem_cons.1 he with rfl|he
  rw[<-Les.len h.1];exact hk x sM;exact ELes.lens h.2 (λe he=>hk e (by simp[he])) e he
 |[],_::_,h,_=>h.elim
 |_::_,[],h,_=>h.elim
theorem NewOs.weak{o:Oper}{T k:Nat}{es es':List (List AV)}(h:NewOs P env st o T k es)(he:ELes es es'):NewOs P env st o T k es':=λm φ a w hs hE=>by
 obtain⟨v,w',h1,h2,h3,h4⟩:=h m φ a w hs hE;refine⟨v,w',h1,h2,?_,h4⟩;have:=h3.alter (id:=st.length) (o:= .os T k 0 es) (o':= .os T k 0 es') sM rfl (λc _=>?_);simpa using this;rintro⟨y,xs,r1,r2,r3,r4,r5⟩;exact⟨y,xs,r1,by rw[<-he.len];exact r2,(Les.ras he.flat) r3,he.lens r4,r5⟩
theorem dA{α:Type}{R:α->List D}{n:Nat}{z:α}{zs:List Value}(h:aJ R z=zs.map λz=> .d (.v z)):List.replicate n (zs.map λz=>AV.d (.v z))=(List.replicate n z).map (aJ R):=by rw[List.map_replicate,h]
end
end Go.Sk
namespace Go.Sk
open Go.RowKit (Below)
theorem pL{m φ st w}{id:Nat}{T k ver b len cap:Nat}{es es':List (List AV)}{vs:List Value}(hs:SR m φ st w)(hi:st[id]? =some (.os T k ver es))(hb:m[id]? =some (.tok ver (.slice (some ⟨b,0,none⟩) len cap)))
  (h:RAs m φ w es'.flatten vs)(hl:es'.length=es.length)(hk:∀e∈es',e.length=k)(cur:Array Value)(hcur:w.heap[b]? =some (.cells cur T (0,0)))(new:Array Value)(hsz:new.size=cur.size)(htk:new.toList.take (es.length*k)=vs):
  Ev m φ w m φ (w.setRow b new)/\SR m φ (st.set id (.os T k ver es')) (w.setRow b new):=by
 obtain⟨y,xs,e1,g1,g2,g3,g4⟩:=hs.obj id _ _ hi hb;simp only[Cz.tok.injEq,true_and] at e1;subst e1;have h0:φ b=0:=g4 b rfl;have hF:Fz φ w φ (w.setRow b new):=λb2 off c q1 q2=>⟨q1,by
  have hne:b2≠b:=λe=>by subst e;omega
  rw[cu (cB hne)];exact q2⟩
 have hsize:(w.setRow b new).heap.size=w.heap.size:=size_setRow w b _;refine⟨⟨Pre.refl m,λ_ h=> .inl h,rfl,rfl,rfl,by rw[hsize];exact Nat.le_refl _,λb2 hb2 hn=>⟨cB (λe=>hn ⟨id,_,hb,by rw[e];rfl⟩),rfl⟩,hF⟩,⟨by simp[hs.len],λi o c q1 q2=>?_,λb2 hb2=>hs.lt b2 oM,λi j o o' c c' b2 q1 q2 l1 l2 k1 k2 e1 e2=>?_,hs.gl.mono hF,λb2 hb2=>by rw[hsize];exact hs.nb b2 hb2⟩⟩;by_cases hii:i=id;subst hii;rw[List.getElem?_set_self (cF hi)] at q1;rw[hb] at q2;simp only[ao] at q1 q2;subst q1;subst q2;refine⟨_,vs,rfl,?_,RAs.mono (Pre.refl m) hF _ _ h,hk,g4⟩;obtain⟨r1,r2⟩:=g1;have hvl:vs.length=es.length*k:=by
  have:=aS h;rw[this];clear this h htk;have:∀l:List (List AV),(∀e∈l,e.length=k)->l.flatten.length=l.length*k:=by
   intro l;induction l with
   |nil=>simp
   |cons x l ih=>intro hh;simp only[List.flatten_cons,List.length_append,List.length_cons,ih (λe he=>hh e (by simp[he])),hh x sM,Nat.succ_mul];omega
  rw[this es' hk,hl]
 rcases r2 with⟨hv,_⟩|⟨g,cap',cur',hv,p1,p2,p3,p4,p5,p6⟩
 cases hv;simp only[Value.slice.injEq,ao,Addr.mk.injEq,and_true] at hv;obtain⟨rfl,rfl,rfl⟩:=hv;rw[hcur] at p2;simp only[ao,Obj.cells.injEq,and_true] at p2;subst p2;rw[hl];exact⟨hvl, .inr ⟨b,cap,new,rfl,p1,setRow_heap w b _ _ T (0,0) hcur,p3,p4,by rw[hsz];exact p5,htk⟩⟩;rw[List.getElem?_set_ne (Ne.symm hii)] at q1;have h:=hs.obj i o c q1 q2;cases hl:o.live with
 |true=>refine h.congr (Pre.refl m) hF (λb2 hb2=>⟨cB λe=>?_,rfl⟩);subst e;exact hii (hs.inj i id o _ c _ b2 q1 hi hl rfl q2 hb hb2 rfl)
 |false=>cases o<;>first|trivial|exact h|(simp[AO.live] at hl;done)
 have back:∀(i:Nat)(o:AO),(st.set id (.os T k ver es'))[i]? =some o->o.live=true->∃o2,st[i]? =some o2/\o2.live=true:=by intro i o g l;by_cases hii:i=id;subst hii;exact⟨_,hi,rfl⟩;rw[List.getElem?_set_ne (Ne.symm hii)] at g;exact⟨o,g,l⟩
 obtain⟨p,p1,p2⟩:=back i o q1 l1;obtain⟨q,u1,u2⟩:=back j o' q2 l2;exact hs.inj i j p q c c' b2 p1 u1 p2 u2 k1 k2 e1 e2
section
variable{P:Program}{env:Env}{st:List AO}{dst:Option Tmp}{ty:TypeId}{pos:String}{after:Array Edge}{guard:Option (Nat×Bool)}
theorem pX{T:TypeId}{x y:Operand}{id ver off n T' k:Nat}{es es':List (List AV)}{r0 r:AV}{rs:List AV}(hx:opv env x=some (.pe id ver off))(hs:st[id]? =some (.os T' k ver es))(hy:opv env y=some r0)(hle:Le r0 r)(hk:r.okc=true)(hc:r.cells=rs)(hk1:rs.all AV.ok1=true)
  (hn:bn P T=some n)(hl:rs.length=n)(hlen:off+n<=es.flatten.length)(hes:es'.flatten=es.flatten.take off++rs++es.flatten.drop (off+n))(hel:es'.length=es.length)(hek:∀e∈es',e.length=k):
  Does P env st ⟨dst, .store T x y,ty,pos,after,guard⟩ (.d (.v undef)) (st.set id (.os T' k ver es')):=λm φ a w hsr he=>by
 obtain⟨b,len,cap,xs,g1,g2,g3,g4,g5,g6⟩:=kC hsr he hx hs;obtain⟨us,q1,q2⟩:=bz (hle _ _ _ _ (bc he hy)) hk;rw[hc] at q2;have hul:=aS q2;have hxl:=aS g4;obtain⟨r1,r2⟩:=g3;rcases r2 with⟨hv,_⟩|⟨g,cap',cur,hv,p1,p2,p3,p4,p5,p6⟩
 cases hv;simp only[Value.slice.injEq,ao,Addr.mk.injEq,and_true] at hv;obtain⟨rfl,rfl,rfl⟩:=hv;have hcl:es.length*k<=cur.size:=by rw[p5];exact Nat.mul_le_mul_right _ p3
 have hfl:es.flatten.length=es.length*k:=oM;have hst:=run_storeCells_at P b off T' us 0 cur w p2 oM (iQ q2 hk1);simp only[Nat.add_zero,hul,hl] at hst;have hsize:us.length=n:=oM;have hnew:RAs m φ w es'.flatten (xs.take off++us++xs.drop (off+n)):=by rw[hes];exact aH (aH (bT off g4) q2) (cz _ g4)
 have htk:((cur.toList.take off++us++cur.toList.drop (off+n)).toArray.toList).take (es.length*k)=xs.take off++us++xs.drop (off+n):=by rw[<-p6];apply List.ext_getElem?;intro j;have hcz:cur.toList.length=cur.size:=sM;simp only[List.getElem?_take,List.getElem?_append,List.length_append,List.length_take,List.getElem?_drop,hsize,hcz];rw[Nat.min_eq_left (show off<=cur.size by omega),Nat.min_eq_left (show es.length*k<=cur.size by omega),Nat.min_eq_left (show off<=es.length*k by omega)];by_cases h1:j<es.length*k;rw[if_pos h1];by_cases h2:j<off+n;rw[if_pos h2,if_pos h2];by_cases h3:j<off;simp only[if_pos h3,if_pos h1];simp only[if_neg h3];rw[if_neg h2,if_neg h2];have:off+n+(j - (off+n))=j:=oM;rw[this,if_pos h1];rw[if_neg h1,if_neg (show¬j<off+n by omega)];have:off+n+(j - (off+n))=j:=oM;rw[this,if_neg h1]
 obtain⟨k1,k2⟩:=pL hsr hs g1 hnew hel hek cur p2 (cur.toList.take off++us++cur.toList.drop (off+n)).toArray (by simp[hsize];omega) htk;refine⟨undef,_,m,φ, .inr ⟨?_,rfl⟩,k1,k2,RAv⟩;simp[execOp,Instr.storeAt,Instr.sureAddr,g2,storeVar,q1,ax hn,hsize,hst]
theorem j9{α:Type}{R:α->List D}{k:Nat}(hR:∀x,(R x).length=k):∀{L:List α}{i:Nat}{x:α},L[i]? =some x->∃l1 l2,(L.map (aJ R)).flatten=l1++aJ R x++l2/\l1.length=i*k/\∀z,((L.set i z).map (aJ R)).flatten=l1++aJ R z++l2
 |[],i,x,h=>by simp at h
 |y::L,0,x,h=>by
  simp only[List.getElem?_cons_zero,ao] at h;subst h;exact⟨[],(L.map (aJ R)).flatten,sM,sM,λz=>sM⟩
 |y::L,i+1,x,h=>by
  simp only[List.getElem?_cons_succ] at h;obtain⟨l1,l2,h1,h2,h3⟩:=j9 hR h;refine⟨aJ R y++l1,l2,by simp[h1],?_,λz=>?_⟩;rw[List.length_append,h2,aJ,List.length_map,hR,Nat.succ_mul];omega;simp only[List.set_cons_succ,List.map_cons,List.flatten_cons,h3 z,List.append_assoc]
theorem dY{T n:Nat}{bb:Bool}{x ix:Operand}{id ver T' k:Nat}{α:Type}{R:α->List D}{L:List α}{kk:IntKind}{i:Int}{z:α}(hT:aP P T=some (n,bb))(hx:opv env x=some (.os id ver))(hs:st[id]? =some (.os T' k ver (L.map (aJ R))))(hi:opv env ix=some (.d (.v (.int kk i))))(h:idx L i=some z):
  Yields P env st ⟨dst, .indexAddr T x ix,ty,pos,after,guard⟩ (.pe id ver (i.toNat*n)):=
 bm hT hx hs hi (az h) (by rw[List.length_map];exact cQ h)
theorem kp{S i fo n:Nat}{bb:Bool}{x:Operand}{id ver off T k:Nat}{es:List (List AV)}(hf:c7 P S i=some (fo,n+1,bb))(hx:opv env x=some (.pe id ver off))(hs:st[id]? =some (.os T k ver es)):Yields P env st ⟨dst, .fieldAddr S x i,ty,pos,after,guard⟩ (.pe id ver (off+fo)):=λm φ a w hsr he=>by
 obtain⟨b,len,cap,xs,g1,g2,_⟩:=kC hsr he hx hs;exact⟨_,by simp only[RA];exact⟨_,_,g1,Nat.le_refl _,λ_=>⟨b,len,cap,rfl,rfl⟩⟩,λw' _=>by simp[execOp,g2,ge hf]⟩
theorem bj{T:TypeId}{x:Operand}{id ver off fo T' k:Nat}{α:Type}{R:α->List D}{L:List α}{i:Int}{z:α}{r:AV}(hx:opv env x=some (.pe id ver off))(hoff:off=i.toNat*k+fo)(hs:st[id]? =some (.os T' k ver (L.map (aJ R))))(hT:aW P T=some false)(hR:∀x,(R x).length=k)(hi:idx L i=some z)(hr:(aJ R z)[fo]? =some r):
  Yields P env st ⟨dst, .load T x,ty,pos,after,guard⟩ r:=by
 refine cM hx hs hT ?_;subst hoff;obtain⟨l1,l2,h1,h2,_⟩:=j9 hR (dp hi);have hlt:=cF hr;rw[h1,List.getElem?_append_left (by rw[List.length_append];omega),List.getElem?_append_right oM,h2];rw[show i.toNat*k+fo - i.toNat*k=fo from by omega,hr]
theorem nT{T:TypeId}{x:Operand}{id ver off fo n T' k:Nat}{α:Type}{R:α->List D}{L:List α}{i:Int}{z:α}{rs:List AV}(hx:opv env x=some (.pe id ver off))(hoff:off=i.toNat*k+fo)(hs:st[id]? =some (.os T' k ver (L.map (aJ R))))(hT:aW P T=some true)(hn:bn P T=some n)(hR:∀x,(R x).length=k)(hi:idx L i=some z)(hr:((aJ R z).drop fo).take n=rs)(hrl:Nat.ble (fo+n) k=true):
  Yields P env st ⟨dst, .load T x,ty,pos,after,guard⟩ (.ag rs):=by
 subst hoff;obtain⟨l1,l2,h1,h2,_⟩:=j9 hR (dp hi);have hle2:=nbT hrl;have hz:(aJ R z).length=k:=by rw[aJ,List.length_map,hR]
 have:=pA (P:=P) (dst:=dst) (ty:=ty) (pos:=pos) (after:=after) (guard:=guard) (n:=n) hx hs hT hn (by rw[h1];simp only[List.length_append];omega);rw[h1,List.append_assoc,List.drop_append,h2,show i.toNat*k+fo - i.toNat*k=fo from by omega,List.drop_eq_nil_of_le oM,List.nil_append,List.drop_append,List.take_append_of_le_length (by rw[List.length_drop];omega),hr] at this;exact this
theorem cE{T:TypeId}{x y:Operand}{id ver off fo n T' k:Nat}{α:Type}{R:α->List D}{L:List α}{i:Int}{z:α}(z':α){r0 r:AV}{rs:List AV}(hx:opv env x=some (.pe id ver off))(hoff:off=i.toNat*k+fo)(hs:st[id]? =some (.os T' k ver (L.map (aJ R))))(hy:opv env y=some r0)(hle:Le r0 r)(hk:r.okc=true)(hc:r.cells=rs)(hk1:rs.all AV.ok1=true)
  (hn:bn P T=some n)(hl:rs.length=n)(hR:∀x,(R x).length=k)(hi:idx L i=some z)(hrl:Nat.ble (fo+n) k=true)(hz':aJ R z'=(aJ R z).take fo++rs++(aJ R z).drop (fo+n)):
  Does P env st ⟨dst, .store T x y,ty,pos,after,guard⟩ (.d (.v undef)) (st.set id (.os T' k ver ((L.set i.toNat z').map (aJ R)))):=by
 subst hoff;obtain⟨l1,l2,h1,h2,h3⟩:=j9 hR (dp hi);have hle2:=nbT hrl;have hz:(aJ R z).length=k:=by rw[aJ,List.length_map,hR]
 refine pX hx hs hy hle hk hc hk1 hn hl (by rw[h1];simp only[List.length_append];omega) ?_ sM (λe he=>by obtain⟨x,_,rfl⟩:=List.mem_map.1 he;rw[aJ,List.length_map,hR]);have e1:(l1++aJ R z++l2).take (i.toNat*k+fo)=l1++(aJ R z).take fo:=by rw[List.append_assoc,List.take_append,List.take_of_length_le oM,h2,show i.toNat*k+fo - i.toNat*k=fo from by omega,List.take_append_of_le_length oM]
 have e2:(l1++aJ R z++l2).drop (i.toNat*k+fo+n)=(aJ R z).drop (fo+n)++l2:=by rw[List.append_assoc,List.drop_append,List.drop_eq_nil_of_le oM,h2,show i.toNat*k+fo+n - i.toNat*k=fo+n from by omega,List.nil_append,List.drop_append_of_le_length oM]
 rw[h1,h3,hz',e1,e2];simp[List.append_assoc]
end
end Go.Sk
namespace Go.Sk
open Go.RowKit (Below)
inductive LK where
 |int(k:IntKind)
 |bool
 |str
def LK.fits:LK->Value->Bool
 | .int k, .int k' _=>decide (k=k')
 | .bool, .bool _=>true
 | .str, .string _=>true
 |_,_=>false
def cx:List LK->List Value->Bool
 |[],[]=>true
 |k::ks,v::vs=>k.fits v&&cx ks vs
 |_,_=>false
def k7:Value->Value->Bool
 | .int _ a, .int _ b=>decide (a=b)
 | .bool a, .bool b=>a==b
 | .string a, .string b=>a.toList==b.toList
 |_,_=>false
def eqL:List Value->List Value->Bool
 |[],[]=>true
 |x::xs,y::ys=>k7 x y&&eqL xs ys
 |_,_=>false
mutual
def jK(P:Program):Nat->TypeId->Option (List LK)
 |0,_=>none
 |d+1,T=>match P.underlying T with
  |some (.int k)=>some [.int k]
  |some .bool=>some [.bool]
  |some .string=>some [.str]
  |some (.struct fs)=>if P.stoodInHeld T then none else leafF P d fs.toList 0
  |some (.array n e)=>match jK P d e,bn P e with
   |some ks,some m=>if ks.length=m/\(aW P e=some true\/(aW P e=some false/\m=1)) then some (List.replicate n ks).flatten else none
   |_,_=>none
  |_=>none
def leafF(P:Program):Nat->List Field->Nat->Option (List LK)
 |_,[],_=>some []
 |0,_::_,_=>none
 |d+1,f::fs,off=>if f.name≠ "_"/\f.offset=off then
   match jK P d f.type,bn P f.type with
   |some ks,some n=>if ks.length=n/\(aW P f.type=some true\/(aW P f.type=some false/\n=1)) then(leafF P d fs (off+n)).map (ks++·) else none
   |_,_=>none
  else none
end
theorem cC:∀{ks:List LK}{vs:List Value},cx ks vs=true->vs.length=ks.length
 |[],[],_=>rfl
 |k::ks,v::vs,h=>by simp only[cx,Bool.and_eq_true] at h;simp[cC h.2]
 |[],_::_,h=>by simp[cx] at h
 |_::_,[],h=>by simp[cx] at h
theorem ef:∀{ks ls:List LK}{vs:List Value},cx (ks++ls) vs=true->cx ks (vs.take ks.length)=true/\cx ls (vs.drop ks.length)=true
 |[],ls,vs,h=>by simpa[cx] using h
 |k::ks,ls,[],h=>by simp[cx] at h
 |k::ks,ls,v::vs,h=>by
  simp only[List.cons_append,cx,Bool.and_eq_true] at h;obtain⟨h1,h2⟩:=ef h.2;simp[cx,h.1,h1,h2]
theorem hU:∀{xs ys us vs:List Value},xs.length=ys.length->eqL (xs++us) (ys++vs)=(eqL xs ys&&eqL us vs)
 |[],[],us,vs,_=>by simp[eqL]
 |x::xs,y::ys,us,vs,h=>by simp only[List.cons_append,eqL,hU (xs:=xs) (ys:=ys) (by simpa using h),Bool.and_assoc]
 |[],_::_,_,_,h=>by simp at h
 |_::_,[],_,_,h=>by simp at h
def fG:TypeDesc->Bool| .struct _=>true| .array _ _=>true|_=>false
theorem lq{P:Program}{T:TypeId}{u:TypeDesc}(hu:P.underlying T=some u):aW P T=some (fG u):=by unfold aW;rw[hu];cases u<;>rfl
theorem d3{P:Program}{T:TypeId}{b:Bool}(h:aW P T=some b)(w:World):(isAgg T).run P w= .ok b w:=by
 unfold aW at h;cases hu:P.underlying T with
 |none=>simp[hu] at h
 |some u=>simp only[hu,Option.map_some,ao] at h;subst h;simp only[isAgg,Sem.run_bind,run_underlying hu,Result.andThen_ok];cases u<;>simp
theorem gd{P:Program}{T:TypeId}{n:Nat}(h:bn P T=some n)(w:World):(sizeOf T).run P w= .ok n w:=by
 unfold bn at h;cases hi:P.info? T with
 |none=>simp[hi] at h
 |some i=>simp only[hi,Option.map_some,ao] at h;simp[sizeOf,typeInfo,hi,h]
def blk(n:Nat)(l:List Value)(i:Nat):List Value:=(l.drop (i*n)).take n
theorem jo{ks:List LK}:∀{m:Nat}{xs:List Value},cx (List.replicate m ks).flatten xs=true->∀i,i<m->cx ks (blk ks.length xs i)=true
 |0,_,_,i,hi=>oM
 |m+1,xs,h,i,hi=>by
  rw[List.replicate_succ,List.flatten_cons] at h;obtain⟨h1,h2⟩:=ef h;cases i with
  |zero=>simpa[blk] using h1
  |succ i=>have:=jo h2 i oM;unfold blk at this⊢;rw[List.drop_drop] at this;rw[Nat.succ_mul,Nat.add_comm];exact this
theorem qH:∀(m n:Nat)(xs ys:List Value),xs.length=m*n->ys.length=m*n->((List.range m).all λi=>eqL (blk n xs i) (blk n ys i))=eqL xs ys
 |0,n,xs,ys,h1,h2=>by
  rw[Nat.zero_mul] at h1 h2;rw[List.eq_nil_of_length_eq_zero h1,List.eq_nil_of_length_eq_zero h2];rfl
 |m+1,n,xs,ys,h1,h2=>by
  rw[Nat.succ_mul] at h1 h2;have ih:=qH m n (xs.drop n) (ys.drop n) (by rw[List.length_drop];omega) (by rw[List.length_drop];omega);have e:∀(l:List Value)(i:Nat),blk n l (i+1)=blk n (l.drop n) i:=λl i=>by
   unfold blk;rw[List.drop_drop,Nat.succ_mul,Nat.add_comm]
  rw[List.range_succ_eq_map,List.all_cons,List.all_map];simp only[Function.comp_def,e,Nat.succ_eq_add_one,ih];have e0:∀l:List Value,blk n l 0=l.take n:=λl=>by simp[blk]
  rw[e0,e0];conv=>rhs;rw[<-List.take_append_drop n xs,<-List.take_append_drop n ys]
  rw[hU (by rw[List.length_take,List.length_take];omega)]
theorem jS{P:Program}(w:World)(n:Nat)(t e:TypeId)(m sz:Nat)(ks:List LK)(ht:P.underlying t=some (.array m e))(hsz:bn P e=some sz)(hlen:ks.length=sz)(hag:aW P e=some true\/(aW P e=some false/\sz=1))
  (ih:∀xs ys,cx ks xs=true->cx ks ys=true->(aW P e=some true->(Op.equalIn n e (.agg ⟨xs⟩) (.agg ⟨ys⟩)).run P w= .ok (eqL xs ys) w)/\(aW P e=some false->∀x y,xs=[x]->ys=[y]->(Op.equalIn n e x y).run P w= .ok (eqL xs ys) w))
  (xs ys:List Value)(h1:cx (List.replicate m ks).flatten xs=true)(h2:cx (List.replicate m ks).flatten ys=true):
  (Op.equalIn (n+1) t (.agg ⟨xs⟩) (.agg ⟨ys⟩)).run P w= .ok (eqL xs ys) w:=by
 have hfl:(List.replicate m ks).flatten.length=m*sz:=by rw[List.length_flatten,List.map_replicate,List.sum_replicate_nat,hlen]
 have lx:xs.length=m*sz:=by rw[<-hfl];exact cC h1
 have ly:ys.length=m*sz:=by rw[<-hfl];exact cC h2
 rw[<-qH m sz xs ys lx ly,List.range_eq_range',Op.equalIn];simp only[Sem.run_bind,run_underlying ht,Result.andThen_ok,gd hsz,Std.Legacy.Range.forIn_eq_forIn_range',Std.Legacy.Range.size,Nat.sub_zero,Nat.add_sub_cancel,Nat.div_one];have hl:∀i∈List.range' 0 m 1,i<m:=λi hi=>by simpa using (List.mem_range'_1.1 hi).2
 generalize List.range' 0 m 1=l at hl⊢;induction l with
 |nil=>simp
 |cons i l ih2=>
  have hi:i<m:=hl i sM;have hbnd:i*sz+sz<=m*sz:=by
   calc i*sz+sz=(i+1)*sz:=by rw[Nat.succ_mul]
    _<=m*sz:=Nat.mul_le_mul_right _ hi
  have f1:=jo h1 i hi;have f2:=jo h2 i hi;rw[hlen] at f1 f2;obtain⟨i1,i2⟩:=ih _ _ f1 f2;have key:∀zs:List Value,zs.length=m*sz->(part e ⟨zs⟩ (i*sz)).run P w= .ok (if aW P e=some true then .agg ⟨blk sz zs i⟩ else((zs.drop (i*sz))[0]?).getD undef) w:=by
   intro zs hz;rcases hag with hag|⟨hag,hm1⟩
   rw[if_pos hag];simp only[part,Sem.run_bind,d3 hag,Result.andThen_ok,if_true,gd hsz,Sem.run_pure];congr 2;apply Array.toList_inj.mp;simp[List.extract_eq_take_drop,blk];rw[if_neg (by rw[hag];simp)];simp only[part,Sem.run_bind,d3 hag,Result.andThen_ok,Bool.false_eq_true,if_false];have:i*sz<zs.length:=oM;simp[this]
  have pe:(Op.equalIn n e (if aW P e=some true then .agg ⟨blk sz xs i⟩ else((xs.drop (i*sz))[0]?).getD undef) (if aW P e=some true then .agg ⟨blk sz ys i⟩ else((ys.drop (i*sz))[0]?).getD undef)).run P w= .ok (eqL (blk sz xs i) (blk sz ys i)) w:=by
   rcases hag with hag|⟨hag,hm1⟩
   rw[if_pos hag,if_pos hag];exact i1 hag;rw[if_neg (by rw[hag];simp),if_neg (by rw[hag];simp)];have ex:∀zs:List Value,zs.length=m*sz->blk sz zs i=[((zs.drop (i*sz))[0]?).getD undef]:=by intro zs hz;have:i*sz<zs.length:=oM;unfold blk;subst hm1;rw[List.drop_eq_getElem_cons this];rfl
   exact i2 hag _ _ (ex xs lx) (ex ys ly)
  simp only[List.forIn_cons,Sem.run_bind,key xs lx,key ys ly,pe,Result.andThen_ok,List.all_cons];cases hb:eqL (blk sz xs i) (blk sz ys i);simp;simp only[Bool.not_true,Bool.false_eq_true,if_false,Sem.run_pure,Result.andThen_ok,Bool.true_and];exact ih2 λj hj=>hl j (by simp[hj])
theorem eA{P:Program}(w:World):∀(d:Nat),
  (∀(T:TypeId)(ks:List LK)(n:Nat)(xs ys:List Value),jK P d T=some ks->d<=n->cx ks xs=true->cx ks ys=true->
   (aW P T=some true->(Op.equalIn n T (.agg ⟨xs⟩) (.agg ⟨ys⟩)).run P w= .ok (eqL xs ys) w)/\
   (aW P T=some false->∀x y,xs=[x]->ys=[y]->(Op.equalIn n T x y).run P w= .ok (eqL xs ys) w))/\
  (∀(fs:List Field)(off:Nat)(ks:List LK)(n:Nat)(xs ys:List Value),leafF P d fs off=some ks->d<=n->cx ks (xs.drop off)=true->cx ks (ys.drop off)=true->xs.length=ys.length->
   (Op.eqFields n ⟨xs⟩ ⟨ys⟩ fs).run P w= .ok (eqL (xs.drop off) (ys.drop off)) w)
 |0=>by
  constructor;intro T ks n xs ys h;simp[jK] at h;intro fs off ks n xs ys h hn h1 h2 hl;cases fs with
  |nil=>simp only[leafF,ao] at h;subst h;have a1:=cC h1;have a2:=cC h2;rw[List.eq_nil_of_length_eq_zero a1,List.eq_nil_of_length_eq_zero a2];simp[Op.eqFields,eqL]
  |cons f fs=>simp[leafF] at h
 |d+1=>by
  obtain⟨ihK,ihF⟩:=eA w d;constructor;intro T ks n xs ys h hn h1 h2;obtain⟨n,rfl⟩:∃n',n=n'+1:=⟨n - 1,oM⟩;simp only[jK] at h;cases hu:P.underlying T with
  |none=>simp[hu] at h
  |some u=>
   rw[hu] at h;have hag:=lq hu;cases u with
   |int k=>simp only[ao] at h;subst h;refine⟨λh=>by simp[hag,fG] at h,λ_ x y hx hy=>?_⟩;subst hx;subst hy;simp only[cx,Bool.and_true] at h1 h2;cases x<;>simp only[LK.fits,Bool.false_eq_true] at h1;cases y<;>simp only[LK.fits,Bool.false_eq_true] at h2;simp only[decide_eq_true_eq] at h1 h2;subst h1;subst h2;rw[run_equalIn_int w n T _ k _ _ hu];simp[eqL,k7,Int.beq_dec]
   |bool=>simp only[ao] at h;subst h;refine⟨λh=>by simp[hag,fG] at h,λ_ x y hx hy=>?_⟩;subst hx;subst hy;simp only[cx,Bool.and_true] at h1 h2;cases x<;>simp only[LK.fits,Bool.false_eq_true] at h1;cases y<;>simp only[LK.fits,Bool.false_eq_true] at h2;rw[run_equalIn_bool' w n T _ _ hu];simp[eqL,k7]
   |string=>simp only[ao] at h;subst h;refine⟨λh=>by simp[hag,fG] at h,λ_ x y hx hy=>?_⟩;subst hx;subst hy;simp only[cx,Bool.and_true] at h1 h2;cases x<;>simp only[LK.fits,Bool.false_eq_true] at h1;cases y<;>simp only[LK.fits,Bool.false_eq_true] at h2;rw[run_equalIn_string w n T _ _ hu];simp[eqL,k7]
   |struct fs=>
    simp only at h;split at h;cases h;rename_i hst;refine⟨λ_=>?_,λh=>by simp[hag,fG] at h⟩;have hf:P.fieldsOf T=fs:=by simp[Program.fieldsOf,hu]
    rw[run_equalIn_struct w n T ⟨xs⟩ ⟨ys⟩ (by rw[hf,hu]) (by simpa using hst),hf];have:=ihF fs.toList 0 ks n xs ys h oM (by simpa using h1) (by simpa using h2) (by rw[cC h1,cC h2]);simpa using this
   |array m e=>simp only at h;split at h;rename_i ks1 sz hk hsz;split at h;rename_i hc;simp only[ao] at h;subst h;refine⟨λ_=>?_,λh=>by simp[hag,fG] at h⟩;exact jS w n T e m sz ks1 hu hsz hc.1 hc.2 (λxs ys f1 f2=>ihK e ks1 n xs ys hk oM f1 f2) xs ys h1 h2;cases h;cases h
   |_=>simp at h
  intro fs off ks n xs ys h hn h1 h2 hl;cases fs with
  |nil=>simp only[leafF,ao] at h;subst h;have a1:=cC h1;have a2:=cC h2;rw[List.eq_nil_of_length_eq_zero a1,List.eq_nil_of_length_eq_zero a2];simp[Op.eqFields,eqL]
  |cons f fs=>
   simp only[leafF] at h;split at h;rename_i hc;obtain⟨hname,hoff⟩:=hc;split at h;rename_i ks1 m hk1 hm;split at h;rename_i hc2;obtain⟨hlen,hag⟩:=hc2;obtain⟨ks2,hks2,rfl⟩:=Option.map_eq_some_iff.1 h;obtain⟨f1,f2⟩:=ef h1;obtain⟨g1,g2⟩:=ef h2;have lx:=cC h1;have ly:=cC h2;simp only[List.length_append,List.length_drop] at lx ly;have key:∀zs:List Value,zs.length=xs.length->(part f.type ⟨zs⟩ f.offset).run P w= .ok (if aW P f.type=some true then .agg ⟨(zs.drop off).take m⟩ else((zs.drop off)[0]?).getD undef) w:=by
    intro zs hz;rcases hag with hag|⟨hag,hm1⟩
    rw[if_pos hag];simp only[part,Sem.run_bind,d3 hag,Result.andThen_ok,if_true,gd hm,Sem.run_pure];rw[hoff];congr 2;apply Array.toList_inj.mp;simp[List.extract_eq_take_drop];rw[if_neg (by rw[hag];simp)];simp only[part,Sem.run_bind,d3 hag,Result.andThen_ok,Bool.false_eq_true,if_false];have:off<zs.length:=oM;simp[hoff,this]
   have hmain:(Op.equalIn n f.type (if aW P f.type=some true then .agg ⟨(xs.drop off).take m⟩ else((xs.drop off)[0]?).getD undef) (if aW P f.type=some true then .agg ⟨(ys.drop off).take m⟩ else((ys.drop off)[0]?).getD undef)).run P w= .ok (eqL ((xs.drop off).take m) ((ys.drop off).take m)) w:=by
    obtain⟨i1,i2⟩:=ihK f.type ks1 n _ _ hk1 oM f1 g1;rw[hlen] at i1 i2;rcases hag with hag|⟨hag,hm1⟩
    rw[if_pos hag,if_pos hag];exact i1 hag;rw[if_neg (by rw[hag];simp),if_neg (by rw[hag];simp)];have ex:∀zs:List Value,zs.length=xs.length->(zs.drop off).take m=[((zs.drop off)[0]?).getD undef]:=by intro zs hz;have:off<zs.length:=oM;subst hm1;rw[List.drop_eq_getElem_cons this];rfl
    exact i2 hag _ _ (ex xs rfl) (ex ys hl.symm)
   have hrest:=ihF fs (off+m) ks2 n xs ys hks2 oM (by rw[List.drop_drop,hlen] at f2;exact f2) (by rw[List.drop_drop,hlen] at g2;exact g2) hl;have hsplit:eqL (xs.drop off) (ys.drop off)=(eqL ((xs.drop off).take m) ((ys.drop off).take m)&&eqL (xs.drop (off+m)) (ys.drop (off+m))):=by
    conv=>lhs;rw[<-List.take_append_drop m (xs.drop off),<-List.take_append_drop m (ys.drop off)]
    rw[hU (by simp only[List.length_take,List.length_drop];omega),List.drop_drop,List.drop_drop]
   simp only[Op.eqFields,if_pos hname,Sem.run_bind,key xs rfl,key ys hl.symm,Result.andThen_ok,hmain];rw[hsplit];cases hb:eqL ((xs.drop off).take m) ((ys.drop off).take m) with
   |false=>simp
   |true=>simpa using hrest
   cases h;cases h;cases h
section
variable{P:Program}{env:Env}{st:List AO}{dst:Option Tmp}{ty:TypeId}{pos:String}{after:Array Edge}{guard:Option (Nat×Bool)}
theorem iM{φ w}:∀{vs cs:List Value},RFs φ w (vs.map D.v) cs->cs=vs
 |[],cs,h=>by simpa[RFs] using h
 |v::vs,cs,h=>by
  simp only[List.map_cons,RFs,RD] at h;obtain⟨c,cs',rfl,rfl,h⟩:=h;rw[iM h]
def pU(P:Program)(T:TypeId):Option (List LK):=bif P.eqGuardType P.depth T then none else match aW P T with|some true=>jK P 100 T|_=>none
theorem vj{x y:Operand}{T T':TypeId}{xa ya:AV}{xs ys:List Value}{ks:List LK}{b:Bool}(hT:pU P T=some ks)(hx:opv env x=some xa)(hlx:Le xa (.d (.ag (xs.map D.v))))(hy:opv env y=some ya)(hly:Le ya (.d (.ag (ys.map D.v))))(h1:cx ks xs=true)(h2:cx ks ys=true)(hb:eqL xs ys=b):
  Yields P env st ⟨dst, .binOp .eql T x y T',ty,pos,after,guard⟩ (.d (.v (.bool b))):=λm φ a w _ he=>by
 unfold pU at hT;cases hg:P.eqGuardType P.depth T with
 |true=>rw[hg] at hT;cases hT
 |false=>rw[hg] at hT;simp only[cdF] at hT;split at hT;rename_i hag;have ex:=hlx _ _ _ _ (bc he hx);have ey:=hly _ _ _ _ (bc he hy);simp only[RA,RD] at ex ey;obtain⟨cs,e1,e2⟩:=ex;obtain⟨ds,e3,e4⟩:=ey;have e5:=iM e2;rw[e5] at e1;have e6:=iM e4;rw[e6] at e3;refine⟨_,RAv,λw' _=>?_⟩;have:=((eA (P:=P) w' 100).1 T ks 10000 xs ys hT dC h1 h2).1 hag;simp only[execOp,e1,e3,Sem.run_bind,run_eqGuard_agg w' .eql T x y ⟨xs⟩ ⟨ys⟩ hg,Result.andThen_ok,run_eql_struct w' T ⟨xs⟩ ⟨ys⟩,this,hb];rfl;cases hT
end
end Go.Sk
namespace Go.Sk
open Go.RowKit (Below)
theorem ml(js:List Nat):∀l:List D,AV.rens js (l.map AV.d)=l.map AV.d
 |[]=>rfl
 |x::l=>by rw[List.map_cons,AV.rens,ml js l];rfl
theorem vx{α:Type}(js:List Nat)(T k v:Nat)(E:α->List D)(L:List α):AO.ren js (.os T k v (L.map (aJ E)))= .os T k v (L.map (aJ E)):=by simp only[AO.ren,List.map_map];congr 1;apply List.map_congr_left;intro x _;exact ml js _
theorem bJ{κ α:Type}(js:List Nat)(kf:κ->Value)(g:α->D)(L:List (κ×α)):AO.ren js (.mp (L.map λp=>(kf p.1,AV.d (g p.2))))= .mp (L.map λp=>(kf p.1,AV.d (g p.2))):=by simp only[AO.ren,List.map_map];congr 1
theorem aN{α:Type}{a b:α}{l l':List α}(h:a=b)(k:l=l'):a::l=b::l':=by rw[h,k]
section
variable{P:Program}{e:En}{ops:Array Oper}{l rest:List Oper}{env:Env}{st:List AO}{R:Env->List AO->Prop}{K:Ko}
theorem dW{o:Oper}{d:Nat}{f:FuncId}{c:Call}{x:Operand}{first caps asz as0:List AV}{st0 st0':List AO}{new new':Nat->List AO}{y:D}(js:List Nat)(hop:o.op= .call c)(hx:c.callee= .value x)
  (hf:opv env x=some (.fn (.func f) first caps))(has:c4 env c.args.toList=some asz)(hc:Ctr P f as0 st0 (iH st0.length y new))(hl:Les (first++asz++caps) (AV.rens js as0))
  (hla:AV.lts js.length as0=true)(hj:js.Nodup)(hren0:st0.map (AO.ren js)=st0')(hwin:eK js st st0')(hlt:da js.length st0=true)(hlive:fK st0=true)(hnew:∀i,da js.length (new i)=true)
  (hren:∀i,(new i).map (AO.ren js)=new' i)
  (hw:Wt ops env o true)(ho:o.dst=some d)(hd:Nat.ble (d+1) e.n=true)(h:∀i,WL P e ops rest ((d, .d y)::env) (bU js (new' i) st) R):WL P e ops (o::rest) env st R:=
 uC js hop hx hf has hc hl hla hj (by rw[hren0];exact hwin) hlt hlive hnew hw ho hd (λi=>by rw[hren i];exact h i)
end
end Go.Sk
namespace Go.Sk
open Go.RowKit (Below)
section
variable{P:Program}{e:En}{ops:Array Oper}{l rest:List Oper}{env:Env}{st:List AO}{R:Env->List AO->Prop}{K:Ko}
variable{dst:Option Tmp}{ty:TypeId}{pos:String}{after:Array Edge}{guard:Option (Nat×Bool)}
theorem wg{φ w}{ds:List (List D)}{y:Value}(h:RD φ w (.sl ds) y):∃a l c,y= .slice a l c/\(a.isNone=true->ds=[]):=by
 simp only[RD] at h;rcases h with⟨rfl,a,cp,rfl,_⟩|⟨b,off,k,cap,rfl,_⟩
 exact⟨_,_,_,rfl,λ_=>rfl⟩;exact⟨_,_,_,rfl,λh=>by simp at h⟩
theorem tt{T T' E d:Nat}{x:Operand}{xr:AV}{ds:List (List D)}{bo:BinOp}(neg:Bool)(hb:bo=bif neg then .neq else .eql)(hT:P.underlying T=some (.slice E))(hx:opv env x=some xr)(hl:Le xr (.d (.sl ds)))
  (hw:Wt ops env ⟨some d, .binOp bo T x (.const (.slice none 0 0)) T',ty,pos,after,guard⟩ true)(hd:Nat.ble (d+1) e.n=true)(h:∀b:Bool,(b=true->ds=[])->WL P e ops rest ((d, .d (.v (.bool (b !=neg))))::env) st R):
  WL P e ops (⟨some d, .binOp bo T x (.const (.slice none 0 0)) T',ty,pos,after,guard⟩::rest) env st R:=λm φ a w hi=>by
 have h1:=hl _ _ _ _ (bc hi.env hx);simp only[RA] at h1;obtain⟨ad,ll,cc,h2,h3⟩:=wg h1;unfold d5;rw[if_pos (hw _ _ _ _ hi.env)];refine .inl ?_;have hrun:(execOp a.eval ⟨some d, .binOp bo T x (.const (.slice none 0 0)) T',ty,pos,after,guard⟩).run P w= .ok (.value (.bool (ad.isNone !=neg))) w:=by subst hb;cases neg;have hc:a.eval (.const (.slice none 0 0))= .slice none 0 0:=rfl;simp[execOp,h2,hc,eqGuard,binOp,run_equal_slice_nil w T E ad ll cc hT];have hc:a.eval (.const (.slice none 0 0))= .slice none 0 0:=rfl;simp[execOp,h2,hc,eqGuard,binOp,run_equal_slice_nil w T E ad ll cc hT]
 simp only[Oper.wp,hrun,Oper.upon];exact h ad.isNone h3 m φ _ w (hi.put (nbT hd) RAv)
theorem WL.cast(t:Nat){x y:AV}(ht:env.get t=some x)(hl:Le x y)(h:WL P e ops rest ((t,y)::env) st R):WL P e ops rest env st R:=
 WL.sub (Sub.cons ht hl (Sub.refl env)) h
end
end Go.Sk
namespace Go.Sk
open Go.RowKit (Below)
open Go.ChangeShapes Go.WideShapes Go.ChangeAt Go.RowKit
theorem jF{H:Type}{enc:TypeId×Value->H}{P:Program}{w:World}{base:Nat}{spare:Nat->Bool}{held:Bool}:∀{ts:List TypeId}{vs:List Value}{ds:List (DataW H)}{ps:List MemPlace},DataW.TrodAll enc P w base spare held ts vs ds ps->ds.length=ts.length/\vs.length=ts.length
 |[],[],[],_,_=>⟨rfl,rfl⟩
 |t::ts,v::vs,d::ds,ps,h=>by
  obtain⟨p,q,_,h2,_⟩:=h;have:=jF h2;simp[this.1,this.2]
 |[],[],_::_,_,h=>h.elim
 |[],_::_,_,_,h=>h.elim
 |_::_,[],_,_,h=>h.elim
 |_::_,_::_,[],_,h=>h.elim
theorem gU{H:Type}{enc:TypeId×Value->H}{P:Program}(hl:laidOutB P=true){W W':World}(hb:Below W.heap.size W W'):∀{ts:List TypeId}{vs:List Value}{ds:List (DataW H)}{ps:List MemPlace},
  (ts.all λt=>P.readableRec t&&decide (t<P.types.size))=true->DataW.TrodAll enc P W 0 (λ_=>true) true ts vs ds ps->(∀x∈ps,x.block<W.heap.size)->DataW.TrodAll enc P W' 0 (λb=>decide (b<W.heap.size)) true ts vs ds ps
 |[],[],[],ps,_,h,_=>h
 |t::ts,v::vs,d::ds,ps,ht,h,hlt=>by
  obtain⟨p,q,h1,h2,rfl⟩:=h;simp only[List.all_cons,Bool.and_eq_true,decide_eq_true_eq] at ht;exact⟨p,q,Below.trod hl ht.1.1 ht.1.2 h1 hb (λx hx=>hlt x (by simp[hx])),gU hl hb ht.2 h2 (λx hx=>hlt x (by simp[hx])),rfl⟩
 |[],[],_::_,_,_,h,_=>h.elim
 |[],_::_,_,_,_,h,_=>h.elim
 |_::_,[],_,_,_,h,_=>h.elim
 |_::_,_::_,[],_,_,h,_=>h.elim
def bu(W:World)(b:Nat):Nat:=match W.heap[b]? with|some (.cells c _ _)=>c.size|_=>0
theorem rY(W:World)(hg:Gl (bu W) W):SR [] (bu W) [] W where
 len:=rfl
 obj i o c h:=by simp at h
 lt b hb:=by simp[bu,hb]
 inj i j o o' c c' b h:=by simp at h
 gl:=hg
 nb b h:=by obtain⟨i,c,h,_⟩:=h;simp at h
theorem o6{P:Program}{f:FuncId}{ds:List D}{W:World}{vs:List Value}(hg:Gl (bu W) W)(h:Pu P f ds (.b true))(ha:RAs [] (bu W) W (ds.map .d) vs):Calls P f ⟨vs⟩ W λe W'=>e= .returned (.bool true)/\Below W.heap.size W W':=by refine(h.2 [] (bu W) W vs (rY W hg) ha).mono ?_;rintro en w' ⟨v,r,st',m',φ',rfl,⟨rfl,rfl⟩,hev,_,hra⟩;simp only[RA,RD] at hra;subst hra;exact⟨rfl,hev.os,hev.tape,hev.output,hev.size,λb hb=>(hev.keep b hb (by rintro⟨i,c,h,_⟩;simp at h)).1⟩
end Go.Sk
namespace Go.Sk
open Go.RowKit (Below)
section
variable{H:Type}{enc:TypeId×Value->H}{P:Program}{W:World}{spare:Nat->Bool}{held:Bool}
theorem ut{W:World}{b off:Nat}{c:Value}(h:W.cell? ⟨b,off,none⟩=some c):off<bu W b:=by unfold World.cell? at h;unfold bu;split at h;rename_i cs t fr hh;simp only at hh;rw[hh];simp only[Option.isSome_none,Bool.false_eq_true,if_false] at h;exact(Array.getElem?_eq_some_iff.1 h).1;cases h
def Tr(enc:TypeId×Value->H)(P:Program)(W:World)(spare:Nat->Bool)(held:Bool)(fuel:Nat)(T:TypeId)(cs:List Value)(y:DataW H×List MemPlace):Prop:=
 DataW.trod enc P W 0 spare held fuel T cs=some y/\W.noneFrozen y.2
theorem kF{W:World}{p q:List MemPlace}(h:W.noneFrozen p)(hs:∀x∈q,x∈p):W.noneFrozen q:=λb off hm=>h b off (hs _ hm)
def Reads(enc:TypeId×Value->H)(P:Program)(W:World)(spare:Nat->Bool)(held:Bool)(fuel:Nat)(T:TypeId){α:Type}(E:α->List D)(G:α->Prop):Prop:=
 ∀cs y,Tr enc P W spare held fuel T cs y->∃x,RFs (bu W) W (E x) cs/\G x
theorem Reads.zero{T:TypeId}{α:Type}{E:α->List D}{G:α->Prop}:Reads enc P W spare held 0 T E G:=λcs y h=>by simp[Tr,DataW.trod] at h
theorem ja{T:TypeId}{k:IntKind}(hT:P.underlying T=some (.int k)):∀fuel,Reads enc P W spare held fuel T (λn:Int=> [.i k n]) (λn=>k.min<=n/\n<=k.max)
 |0=>Reads.zero
 |fuel+1=>λcs y h=>by
  replace h:=h.1;rcases cs with _|⟨v,_|⟨v2,r⟩⟩
  simp[DataW.trod,hT] at h;cases v<;>simp only[DataW.trod,hT,reduceCtorEq] at h;rename_i k' n;split at h;rename_i hc;obtain⟨rfl,hw⟩:=hc;refine⟨n,by simp[RFs,RD],?_⟩;simpa[Lit.wf,IntKind.has] using hw;cases h;simp[DataW.trod,hT] at h
theorem fd{α β:Type}{f:α->Option β}:∀{l:List α}{r:List β},l.mapM f=some r->∀(i:Nat)(a:α),l[i]? =some a->∃b,f a=some b/\r[i]? =some b
 |[],r,h,i,a,ha=>by simp at ha
 |x::l,r,h,i,a,ha=>by
  rw[List.mapM_cons] at h;cases hx:f x with
  |none=>simp[hx] at h
  |some b=>
   cases hl:l.mapM f with
   |none=>simp[hx,hl] at h
   |some bs=>
    simp only[hx,hl,Option.bind_eq_bind,bnS,Option.pure_def,ao] at h;subst h;cases i with
    |zero=>simp only[List.getElem?_cons_zero,ao] at ha;subst ha;exact⟨b,hx,rfl⟩
    |succ i=>obtain⟨c,h1,h2⟩:=fd hl i a (by simpa using ha);exact⟨c,h1,by simpa using h2⟩
theorem oK{α β:Type}{f:α->Option β}:∀{l:List α}{r:List β},l.mapM f=some r->r.length=l.length
 |[],r,h=>by simp at h;simp[h]
 |x::l,r,h=>by
  rw[List.mapM_cons] at h;cases hx:f x with
  |none=>simp[hx] at h
  |some b=>
   cases hl:l.mapM f with
   |none=>simp[hx,hl] at h
   |some bs=>simp only[hx,hl,Option.bind_eq_bind,bnS,Option.pure_def,ao] at h;subst h;simp[oK hl]
theorem ql{φ w}:∀{xs:List D}{vs:List Value}{ys:List D}{us:List Value},RFs φ w xs vs->RFs φ w ys us->RFs φ w (xs++ys) (vs++us)
 |[],vs,ys,us,h,k=>by simp only[RFs] at h;subst h;exact k
 |x::xs,vs,ys,us,h,k=>by
  simp only[RFs] at h;obtain⟨c,cs,rfl,h1,h2⟩:=h;simp only[List.cons_append,RFs];exact⟨c,cs++us,rfl,h1,ql h2 k⟩
theorem ou{e:TypeId}{α:Type}{E:α->List D}{G:α->Prop}{fuel k:Nat}{b off:Nat}(hk:P.cellsOf e=k)(hE:∀x,(E x).length=k)(he:Reads enc P W spare held fuel e E G):
  ∀n:Nat,(∀i,i<n->∃y,(W.cells? 0 (Addr.add ⟨b,off,none⟩ (i*P.cellsOf e)) (P.cellsOf e)).bind (DataW.trod enc P W 0 spare held fuel e)=some y/\W.noneFrozen y.2)->(∀j,j<n*k->W.frozen? ⟨b,off+j,none⟩=false)->∃L:List α,L.length=n/\REs (bu W) W (L.map E) k b off/\∀x∈L,G x:=by
 intro n;induction n generalizing off with
 |zero=>intro _ _;exact⟨[],rfl,by simp[REs],sM⟩
 |succ n ih=>
  intro h hz;rw[Nat.succ_mul] at hz;obtain⟨y,hy,hn⟩:=h 0 (Nat.succ_pos n);obtain⟨cs,h1,h2⟩:=Option.bind_eq_some_iff.1 hy;obtain⟨x,hx,gx⟩:=he cs y ⟨h2,hn⟩;obtain⟨L,l1,l2,l3⟩:=ih (off:=off+k) (λi hi=>by
   obtain⟨y,hy,hn⟩:=h (i+1) oM;refine⟨y,?_,hn⟩;rw[<-hy,hk];rw[cJ,cJ,Nat.succ_mul,show off+(i*k+k)=off+k+i*k from by omega]) (λj hj=>by rw[Nat.add_assoc];exact hz (k+j) oM)
  refine⟨x::L,by simp[l1],?_,λz hz=>by rcases List.mem_cons.1 hz with rfl|hz<;>first|exact gx|exact l3 z hz⟩;simp only[List.map_cons,REs];refine⟨?_,l2⟩;have hcs:∀j,j<k->W.cell? ⟨b,off+j,none⟩=cs[j]? :=by unfold World.cells? at h1;simp only[Nat.zero_le,if_true,Nat.zero_mul] at h1;intro j hj;obtain⟨c,c1,c2⟩:=fd h1 j j (by rw[hk];exact List.getElem?_range hj);rw[c2,<-c1,cJ,cJ];simp
  have hlen:(E x).length=k:=hE x;have hz':∀j,j<k->W.frozen? ⟨b,off+j,none⟩=false:=λj hj=>hz j oM;clear ih h l1 l2 l3 h1 h2 hy hz;generalize E x=ps at hx hlen;have key:∀(ps:List D)(cs:List Value)(o:Nat),RFs (bu W) W ps cs->(∀j,j<ps.length->W.cell? ⟨b,o+j,none⟩=cs[j]?/\W.frozen? ⟨b,o+j,none⟩=false)->RPs (bu W) W ps b o:=by
   intro ps;induction ps with
   |nil=>intro cs o _ _;simp[RPs]
   |cons p ps ih=>intro cs o h1 h2;simp only[RFs] at h1;obtain⟨c,cs',rfl,h3,h4⟩:=h1;have h0:=h2 0 sM;simp only[Nat.add_zero,List.getElem?_cons_zero] at h0;simp only[RPs];exact⟨⟨ut h0.1,c,ov h0.1 h0.2,h3⟩,ih cs' (o+1) h4 (λj hj=>by have:=h2 (j+1) (by simpa using hj);rw[show o+1+j=o+(j+1) from by omega,this.1];simpa using this.2)⟩
  exact key ps cs off hx (λj hj=>⟨hcs j oM,hz' j oM⟩)
theorem ot{T e:TypeId}{α:Type}{E:α->List D}{G:α->Prop}{k:Nat}(hT:P.underlying T=some (.slice e))(hk:P.cellsOf e=k)(hk0:0<k)(hE:∀x,(E x).length=k){fuel:Nat}(he:Reads enc P W spare held fuel e E G):
  Reads enc P W spare held (fuel+1) T (λL:List α=> [.sl (L.map E)]) (λL=>(∀x∈L,G x)/\L.length<=maxLen):=λcs y h=>by
 obtain⟨h,hN⟩:=h;rcases cs with _|⟨v,_|⟨v2,r⟩⟩
 simp[DataW.trod,hT] at h;cases v<;>simp only[DataW.trod,hT,reduceCtorEq] at h;rename_i a len cap;cases a with
 |none=>
  rcases len with _|len<;>rcases cap with _|cap<;>simp only[reduceCtorEq] at h
  exact⟨[],by simp only[RFs,RD];exact⟨_,[],rfl, .inl ⟨rfl,none,0,rfl,λ_=>rfl⟩,rfl⟩,sM⟩
 |some a=>
  have h':(if 0<=a.block/\len<=cap/\cap<=maxLen then
   ((List.range len).mapM λi=>(W.cells? 0 (a.add (i*P.cellsOf e)) (P.cellsOf e)).bind (DataW.trod enc P W 0 spare held fuel e)).bind λelems=>
    (if spare a.block then(List.range (cap - len)).mapM λj=>(W.cells? 0 (a.add ((len+j)*P.cellsOf e)) (P.cellsOf e)).bind (DataW.trod enc P W 0 spare held fuel e) else some []).map λrest=>
     (DataW.slice (elems.map (·.1)) (rest.map (·.1)),MemPlace.row a ((elems.length+rest.length)*P.cellsOf e)++(elems++rest).flatMap (·.2)) else none)=some y:=by simpa[DataW.trod,hT] using h
  clear h;split at h';rename_i hc;obtain⟨elems,h1,h2⟩:=Option.bind_eq_some_iff.1 h';have hm:=λi hi=>fd h1 i i (List.getElem?_range (n:=len) hi);have hel:elems.length=len:=by have:=oK h1;simpa using this
  by_cases hl:len=0;subst hl;exact⟨[],by simp only[RFs,RD];exact⟨_,[],rfl, .inl ⟨rfl,some a,cap,rfl,λh=>by cases h⟩,rfl⟩,sM,sM⟩;have hs:a.spot=none:=by obtain⟨b,h3,_⟩:=hm 0 oM;obtain⟨cs,h4,_⟩:=Option.bind_eq_some_iff.1 h3;unfold World.cells? at h4;simp only[Nat.zero_le,if_true] at h4;obtain⟨c,c1,_⟩:=fd h4 0 0 (by rw[hk];exact List.getElem?_range hk0);have:=World.cell?_spot c1;simpa[Addr.add] using this
  obtain⟨b,off,sp⟩:=a;simp only at hs;subst hs;obtain⟨rest,h5,rfl⟩:=Option.map_eq_some_iff.1 h2;obtain⟨L,l1,l2,l3⟩:=ou hk hE he len (λi hi=>by
   obtain⟨z,h3,h6⟩:=hm i hi;refine⟨z,h3,kF hN λx hx=>List.mem_append_right _ ?_⟩;exact List.mem_flatMap.2 ⟨z,List.mem_append_left _ (List.mem_iff_getElem?.2 ⟨i,h6⟩),hx⟩) (λj hj=>by
   refine hN b (off+j) (List.mem_append_left _ ?_);rw[hk,hel];refine List.mem_map.2 ⟨j,List.mem_range.2 ?_,by simp[Addr.add]⟩;rw[Nat.add_mul];omega)
  refine⟨L,?_,l3,oM⟩;simp only[RFs,RD];refine⟨_,[],rfl, .inr ⟨b,off,k,cap,by rw[List.length_map,l1],by rw[List.length_map,l1];exact hc.2.1,λx hx=>?_,l2⟩,rfl⟩;obtain⟨z,_,rfl⟩:=List.mem_map.1 hx;exact hE z;cases h'
 simp[DataW.trod,hT] at h
theorem iY{φ w}{cs:List Value}{off n m:Nat}{E F:List D}(h:RFs φ w E ((cs.drop off).take n))(hm:m=off+n)(k:RFs φ w F (cs.drop m)):RFs φ w (E++F) (cs.drop off):=by subst hm;have:=ql h k;rwa [<-List.drop_drop,List.take_append_drop] at this
theorem sc{φ w}{cs:List Value}{off:Nat}(h:cs.length=off):RFs φ w [] (cs.drop off):=by rw[List.drop_of_length_le oM];rfl
theorem mW{T:TypeId}{fs:Array Field}{α:Type}{E:α->List D}{G:α->Prop}{fuel:Nat}{n:Nat}(hT:P.underlying T=some (.struct fs))(hn:P.cellsOf T=n)
  (h:∀cs:List Value,cs.length=n->(∀(i:Nat) f,fs[i]? =some f->∃y,Tr enc P W spare held fuel f.type ((cs.drop f.offset).take (P.cellsOf f.type)) y)->∃x,RFs (bu W) W (E x) cs/\G x):
  Reads enc P W spare held (fuel+1) T E G:=λcs y hy=>by
 obtain⟨hy,hN⟩:=hy;simp only[DataW.trod,hT] at hy;split at hy;rename_i hl;obtain⟨xs,h1,rfl⟩:=Option.map_eq_some_iff.1 hy;refine h cs oM (λi f hf=>?_);obtain⟨b,h2,h3⟩:=fd h1 i f (by simpa using hf);exact⟨b,h2,kF hN λx hx=>List.mem_flatMap.2 ⟨b,List.mem_iff_getElem?.2 ⟨i,h3⟩,hx⟩⟩;cases hy
theorem rg{T:TypeId}{v:Value}{d:DataW H}{ps:List MemPlace}{α:Type}{E:α->List D}{G:α->Prop}(hr:∀fuel,Reads enc P W spare held fuel T E G)(h:DataW.Trod enc P W 0 spare held T v d ps/\W.noneFrozen ps):∃x,RFs (bu W) W (E x) v.cells.toList/\G x:=by obtain⟨⟨fuel,h⟩,hn⟩:=h;exact hr fuel _ _ ⟨h,hn⟩
theorem vz{φ w}{x:D}{v:Value}(h:RFs φ w [x] v.cells.toList)(hv:v.oneCell'=true):RD φ w x v:=by rw[mC hv] at h;simp only[RFs] at h;obtain⟨c,cs,e,h1,rfl⟩:=h;simp only[List.cons.injEq,and_true] at e;subst e;exact h1
theorem mX{T e:TypeId}{α:Type}{E:α->List D}{G:α->Prop}{k:Nat}(hT:P.underlying T=some (.slice e))(hk:P.cellsOf e=k)(hk0:0<k)(hE:∀x,(E x).length=k):∀{fuel:Nat},(∀f,f<fuel->Reads enc P W spare held f e E G)->
  Reads enc P W spare held fuel T (λL:List α=> [.sl (L.map E)]) (λL=>(∀x∈L,G x)/\L.length<=maxLen)
 |0,_=>Reads.zero
 |f+1,he=>ot hT hk hk0 hE (he f (Nat.lt_succ_self f))
theorem ri{T e:TypeId}{base:Nat}{v:Value}(hT:P.underlying T=some (.slice e))(h:Value.okWide P W .any base T v):v.oneCell'=true:=by cases v<;>simp_all [Value.okWide,Cell.okWide,Cell.ok,Value.oneCell']
def pi(enc:TypeId×Value->H)(P:Program)(W:World)(spare:Nat->Bool)(held:Bool)(ts:List TypeId)(vs:List Value)(ds:List (DataW H))(ps:List MemPlace):Prop:=DataW.TrodAll enc P W 0 spare held ts vs ds ps/\W.noneFrozen ps
theorem lZ{t:TypeId}{ts:List TypeId}{vs:List Value}{ds:List (DataW H)}{ps:List MemPlace}(h:pi enc P W spare held (t::ts) vs ds ps):∃v vs' d ds' p q,vs=v::vs'/\ds=d::ds'/\(DataW.Trod enc P W 0 spare held t v d p/\W.noneFrozen p)/\pi enc P W spare held ts vs' ds' q:=by
 obtain⟨h,hN⟩:=h;cases vs with
 |nil=>cases ds<;>exact h.elim
 |cons v vs=>
  cases ds with
  |nil=>exact h.elim
  |cons d ds=>obtain⟨p,q,h1,h2,rfl⟩:=h;exact⟨v,vs,d,ds,p,q,rfl,rfl,⟨h1,kF hN λx hx=>List.mem_append_left _ hx⟩,h2,kF hN λx hx=>List.mem_append_right _ hx⟩
theorem mP{vs:List Value}{ds:List (DataW H)}{ps:List MemPlace}(h:pi enc P W spare held [] vs ds ps):vs=[]:=by
 replace h:=h.1;cases vs with
 |nil=>rfl
 |cons v vs=>cases ds<;>exact h.elim
end
end Go.Sk
namespace Go.Sk
open Go.RowKit (Below)
def gh:Value:= .slice none 0 0
def AO.mapc(f:AV->AV):AO->AO
 | .row T cs=> .row T (cs.map f)
 | .os T k v es=> .os T k v (es.map λe=>e.map f)
 | .mp es=> .mp (es.map λp=>(p.1,f p.2))
 | .fam T k v ess=> .fam T k v (ess.map λes=>es.map λe=>e.map f)
 | .si s p=> .si s p
 | .mb es xs cl=> .mb es (xs.map f) cl
 | .it src since seen stp=> .it (f src) since seen stp
 | .lp s vs a b=> .lp s (vs.map f) a b
 | .rsv=> .rsv
 | .dead=> .dead
theorem fS{f:AV->AV}{o:AO}:(o.mapc f).live=o.live:=by cases o<;>rfl
theorem RAs.mapc{m m':List Cz}{φ φ':Nat->Nat}{w w':World}{f:AV->AV}(hf:∀x v,RA m φ w x v->RA m' φ' w' (f x) v):∀{xs:List AV}{vs:List Value},RAs m φ w xs vs->RAs m' φ' w' (xs.map f) vs
 |[],vs,h=>by simpa[RAs] using h
 |x::xs,vs,h=>by
  simp only[RAs] at h;obtain⟨c,cs,rfl,h2,h3⟩:=h;exact aC (hf x c h2) (RAs.mapc hf h3)
theorem dF(f:AV->AV):∀es:List (List AV),(es.map λe=>e.map f).flatten=es.flatten.map f
 |[]=>rfl
 |e::es=>by simp only[List.map_cons,List.flatten_cons,dF f es,List.map_append]
theorem eY{w w':World}{T k n:Nat}{y:Value}{xs:List Value}(h:w.ownsRow 0 T k y n xs)(hb:∀b,y.ownBlock=some b->w'.heap[b]? =w.heap[b]?):w'.ownsRow 0 T k y n xs:=by
 refine⟨h.1,?_⟩;rcases h.2 with g|⟨g,cap,cur,rfl,q1,q2,q3⟩
 exact .inl g;exact .inr ⟨g,cap,cur,rfl,q1,(hb g rfl).trans q2,q3⟩
theorem OR.mapc{m m':List Cz}{φ φ':Nat->Nat}{w w':World}{c:Cz}{o:AO}{f:AV->AV}(h:OR m φ w o c)(hf:∀x v,RA m φ w x v->RA m' φ' w' (f x) v)(hb:∀b,c.has b->w'.heap[b]? =w.heap[b]?/\φ' b=φ b):OR m' φ' w' (o.mapc f) c:=by
 cases o with
 |row T cs=>obtain⟨b,rfl,h0,vs,h1,h2⟩:=h;have:=hb b rfl;exact⟨b,rfl,this.2.trans h0,vs,this.1.trans h1,RAs.mapc hf h2⟩
 |os T k ver es=>obtain⟨y,xs,rfl,h1,h2,h3,h4⟩:=h;refine⟨y,xs,rfl,?_,by rw[dF];exact RAs.mapc hf h2,λe he=>?_,λb hy=>(hb b hy).2.trans (h4 b hy)⟩;rw[List.length_map];exact eY h1 λb hy=>(hb b hy).1;obtain⟨e',he',rfl⟩:=List.mem_map.1 he;rw[List.length_map];exact h3 e' he'
 |mp es=>obtain⟨b,rfl,h0,l,cl,h1,h2,h3,h4⟩:=h;have:=hb b rfl;refine⟨b,rfl,this.2.trans h0,l,cl,this.1.trans h1,by rw[h2];simp,?_,h4⟩;have:=RAs.mapc hf h3;rw[List.map_map] at this⊢;exact this
 |fam T k ver ess=>obtain⟨ys,rfl,h1,h2,h3⟩:=h;refine⟨ys,rfl,by rw[List.length_map];exact h1,λj es y hj hy=>?_,h3⟩;rw[List.getElem?_map,Option.map_eq_some_iff] at hj;obtain⟨es',hj',rfl⟩:=hj;obtain⟨xs,g1,g2,g3,g4⟩:=h2 j es' y hj' hy;have hh:∀b,y.ownBlock=some b->w'.heap[b]? =w.heap[b]?/\φ' b=φ b:=λb hy'=>hb b ⟨y,List.mem_of_getElem? hy,hy'⟩;refine⟨xs,by rw[List.length_map];exact eY g1 λb hy=>(hh b hy).1,by rw[dF];exact RAs.mapc hf g2,λe he=>?_,λb hy'=>(hh b hy').2.trans (g4 b hy')⟩;obtain⟨e',he',rfl⟩:=List.mem_map.1 he;rw[List.length_map];exact g3 e' he'
 |si s p=>obtain⟨b,rfl,h0,h1⟩:=h;have:=hb b rfl;exact⟨b,rfl,this.2.trans h0,this.1.trans h1⟩
 |mb es xs cl=>obtain⟨b,rfl,h0,l,h1,h2,h3⟩:=h;have:=hb b rfl;exact⟨b,rfl,this.2.trans h0,l,this.1.trans h1,h2,RAs.mapc hf h3⟩
 |it src since seen stp=>obtain⟨b,rfl,h0,sb,h1,h2⟩:=h;have:=hb b rfl;exact⟨b,rfl,this.2.trans h0,sb,this.1.trans h1,hf _ _ h2⟩
 |lp s vs a b=>obtain⟨b,rfl,h0,r,us,h1,h2,h3⟩:=h;have:=hb b rfl;exact⟨b,rfl,this.2.trans h0,r,us,this.1.trans h1,h2,RAs.mapc hf h3⟩
 |rsv=>exact h
 |dead=>trivial
def gO(fid ver j nid:Nat):AV->AV
 | .osf f i v=>if f=fid/\v=ver then(if i=j then .os nid 0 else .osf fid i (ver+1)) else .osf f i v
 |x=>x
theorem sW{v:Nat}{ys ys':List Value}:(Cz.fam v ys).le (.fam (v+1) ys'):= .inr ⟨v+1,ys',rfl,Nat.lt_succ_self v⟩
theorem cU{b:Nat}(h:gh.ownBlock=some b):False:=by simp[gh,Value.ownBlock] at h
theorem sU{m φ st w}{fid oid j T k ver:Nat}{ess:List (List (List AV))}{es:List (List AV)}{o:AO}(hs:SR m φ st w)(hf:st[fid]? =some (.fam T k ver ess))(ho:st[oid]? =some o)(hne:oid≠fid)(hj:ess[j]? =some es):
  ∃m' y,m[fid]? =some (.fam ver y)/\Ev m φ w m' φ w/\SR m' φ ((((st.set fid (.fam T k (ver+1) (ess.set j []))).set oid (o.mapc (gO fid ver j st.length)))++ [.os T k 0 es])) w/\
   (∀v,y[j]? =some v->RA m' φ w (.os st.length 0) v):=by
 have hfl:=(giS.1 hf).1;obtain⟨c,hc⟩:∃c,m[fid]? =some c:=⟨_,geG (by rw[hs.len];exact hfl)⟩;obtain⟨ys,rfl,h1,h2,h3⟩:=hs.obj fid _ c hf hc;have hjl:j<ys.length:=by rw[h1];exact(giS.1 hj).1
 obtain⟨y,hy⟩:∃y,ys[j]? =some y:=⟨_,geG hjl⟩;let m1:=m.set fid (.fam (ver+1) (ys.set j gh));let m':=m1++ [Cz.tok 0 y];have hml:m1.length=st.length:=by simp[m1,hs.len]
 have hnid:m'[st.length]? =some (.tok 0 y):=by simp[m',<-hml]
 have hfid:m'[fid]? =some (.fam (ver+1) (ys.set j gh)):=by simp only[m'];rw[List.getElem?_append_left (by rw[hml];exact hfl)];simp[m1,hs.len,hfl]
 have hoth:∀i,i<st.length->i≠fid->m'[i]? =m[i]? :=λi hi hif=>by
  simp only[m'];rw[List.getElem?_append_left (by rw[hml];exact hi)];simp only[m1];rw[List.getElem?_set_ne (Ne.symm hif)]
 have hpre:Pre m m':=λi d hd=>by
  have hi:i<st.length:=by rw[<-hs.len];exact(giS.1 hd).1
  by_cases hif:i=fid;subst hif;rw[hc] at hd;obtain rfl:=inS hd;exact⟨_,hfid,sW⟩;exact⟨d,by rw[hoth i hi hif];exact hd,Cz.le_refl d⟩
 have hmem:∀z,z∈ys.set j gh->z∈ys\/z=gh:=λz hz=>by
  rcases List.mem_or_eq_of_mem_set hz with h|h
  exact .inl h;exact .inr h
 have hfh:∀b,(Cz.fam (ver+1) (ys.set j gh)).has b->(Cz.fam ver ys).has b:=by
  rintro b ⟨z,hz,hb⟩;rcases hmem z hz with h|h
  exact⟨z,h,hb⟩;subst h;exact(cU hb).elim
 have hyh:∀b,(Cz.tok 0 y).has b->(Cz.fam ver ys).has b:=λb hb=>⟨y,List.mem_of_getElem? hy,hb⟩;have hsplit:∀b,(Cz.fam (ver+1) (ys.set j gh)).has b->(Cz.tok 0 y).has b->False:=by rintro b ⟨z,hz,hb⟩ hb2;obtain⟨i,hi⟩:=List.mem_iff_getElem?.1 hz;by_cases hij:i=j;subst hij;rw[List.getElem?_set_self hjl] at hi;obtain rfl:=inS hi;exact cU hb;rw[List.getElem?_set_ne (Ne.symm hij)] at hi;exact hij (h3 i j z y b hi hy hb hb2)
 have hre:∀x v,RA m φ w x v->RA m' φ w (gO fid ver j st.length x) v:=by
  intro x v hx;have hm:=RA.mono hpre (Fz.refl φ w) x v hx;cases x with
  |osf f i vv=>simp only[gO];split;rename_i hcond;obtain⟨rfl,rfl⟩:=hcond;simp only[RA] at hx;obtain⟨v0,ys0,q1,q2,q3⟩:=hx;rw[hc] at q1;simp only[ao,Cz.fam.injEq] at q1;obtain⟨rfl,rfl⟩:=q1;have q4:=q3 rfl;split;rename_i hij;subst hij;rw[hy] at q4;obtain rfl:=inS q4;simp only[RA];exact⟨0,y,hnid,Nat.le_refl _,λ_=>rfl⟩;rename_i hij;simp only[RA];exact⟨_,_,hfid,Nat.le_refl _,λ_=>by rw[List.getElem?_set_ne λh=>hij h.symm];exact q4⟩;exact hm
  |_=>exact hm
 have hstf:((st.set fid (.fam T k (ver+1) (ess.set j []))).set oid (o.mapc (gO fid ver j st.length))).length=st.length:=sM;have hol:=(giS.1 ho).1;have get:∀(i:Nat)(p:AO),(((st.set fid (.fam T k (ver+1) (ess.set j []))).set oid (o.mapc (gO fid ver j st.length)))++ [AO.os T k 0 es])[i]? =some p->
   (i=st.length/\p= .os T k 0 es)\/(i=fid/\p= .fam T k (ver+1) (ess.set j []))\/(i=oid/\p=o.mapc (gO fid ver j st.length))\/(i<st.length/\i≠fid/\i≠oid/\st[i]? =some p):=by
  intro i p hp;rcases Nat.lt_trichotomy i st.length with h|h|h
  rw[List.getElem?_append_left (by rw[hstf];exact h)] at hp;by_cases hio:i=oid;subst hio;rw[List.getElem?_set_self (by simpa using hol)] at hp;exact .inr (.inr (.inl ⟨rfl,(inS hp).symm⟩));rw[List.getElem?_set_ne (Ne.symm hio)] at hp;by_cases hif:i=fid;subst hif;rw[List.getElem?_set_self hfl] at hp;exact .inr (.inl ⟨rfl,(inS hp).symm⟩);rw[List.getElem?_set_ne (Ne.symm hif)] at hp;exact .inr (.inr (.inr ⟨h,hif,hio,hp⟩));subst h;rw[List.getElem?_append_right (by rw[hstf];exact Nat.le_refl _),hstf,Nat.sub_self] at hp;exact .inl ⟨rfl,(inS hp).symm⟩;rw[List.getElem?_eq_none (by simp;omega)] at hp;cases hp
 have hnw:∀b,In m' b->In m b:=by
  rintro b ⟨i,d,hd,hb⟩;rcases Nat.lt_trichotomy i st.length with h|h|h
  by_cases hif:i=fid;subst hif;rw[hfid] at hd;obtain rfl:=inS hd;exact⟨i,_,hc,hfh b hb⟩;rw[hoth i h hif] at hd;exact⟨i,d,hd,hb⟩;subst h;rw[hnid] at hd;obtain rfl:=inS hd;exact⟨fid,_,hc,hyh b hb⟩;rw[List.getElem?_eq_none (by simp[m',hml];omega)] at hd;cases hd
 refine⟨m',ys,hc,⟨hpre,λb h=> .inl (hnw b h),rfl,rfl,rfl,Nat.le_refl _,λ_ _ _=>⟨rfl,rfl⟩,Fz.refl φ w⟩,⟨?_,?_,hs.lt,?_,hs.gl,λb h=>hs.nb b (hnw b h)⟩,?_⟩;simp[m',hml];intro i p d hp hd;rcases get i p hp with⟨rfl,rfl⟩|⟨rfl,rfl⟩|⟨rfl,rfl⟩|⟨g1,g2,g3,g4⟩
 rw[hnid] at hd;obtain rfl:=inS hd;obtain⟨xs,q1,q2,q3,q4⟩:=h2 j es y hj hy;exact⟨y,xs,rfl,q1,RAs.mono hpre (Fz.refl φ w) _ _ q2,q3,q4⟩;rw[hfid] at hd;obtain rfl:=inS hd;refine⟨_,rfl,by simp[h1],λi' es' y' hi' hy'=>?_,λa b z z' bb ha hb hz hz'=>?_⟩;by_cases hij:i'=j;subst hij;rw[List.getElem?_set_self (by rw[<-h1];exact hjl)] at hi';rw[List.getElem?_set_self hjl] at hy';obtain rfl:=inS hi';obtain rfl:=inS hy';exact⟨[],World.ownsRow_nil w 0 T k,by simp[RAs],sM,λb hb=>(cU hb).elim⟩;rw[List.getElem?_set_ne (Ne.symm hij)] at hi' hy';obtain⟨xs,q1,q2,q3,q4⟩:=h2 i' es' y' hi' hy';exact⟨xs,q1,RAs.mono hpre (Fz.refl φ w) _ _ q2,q3,q4⟩;have back:∀(a:Nat)(z:Value),(ys.set j gh)[a]? =some z->z.ownBlock=some bb->ys[a]? =some z:=λa z ha hz=>by
  by_cases haj:a=j;subst haj;rw[List.getElem?_set_self hjl] at ha;obtain rfl:=inS ha;exact(cU hz).elim;rwa [List.getElem?_set_ne (Ne.symm haj)] at ha
 exact h3 a b z z' bb (back a z ha hz) (back b z' hb hz') hz hz';rw[hoth i hol hne] at hd;exact(hs.obj i o d ho hd).mapc hre (λ_ _=>⟨rfl,rfl⟩);rw[hoth i g1 g2] at hd;have h:=hs.obj i p d g4 hd;exact h.congr hpre (Fz.refl φ w) (λ_ _=>⟨rfl,rfl⟩)
 -- no block in two objects
 have src:∀(i:Nat)(p:AO)(d:Cz)(b:Nat),(((st.set fid (.fam T k (ver+1) (ess.set j []))).set oid (o.mapc (gO fid ver j st.length)))++ [AO.os T k 0 es])[i]? =some p->p.live=true->m'[i]? =some d->d.has b->
   ∃(i0:Nat)(p0:AO)(d0:Cz),st[i0]? =some p0/\p0.live=true/\m[i0]? =some d0/\d0.has b/\((i=st.length/\i0=fid/\d= .tok 0 y)\/(i=fid/\i0=fid/\d= .fam (ver+1) (ys.set j gh))\/(i=i0/\i≠fid/\i≠st.length)):=by
  intro i p d b hp hl hd hb;rcases get i p hp with⟨rfl,rfl⟩|⟨rfl,rfl⟩|⟨rfl,rfl⟩|⟨g1,g2,g3,g4⟩
  rw[hnid] at hd;obtain rfl:=inS hd;exact⟨fid,_,_,hf,rfl,hc,hyh b hb, .inl ⟨rfl,rfl,rfl⟩⟩;rw[hfid] at hd;obtain rfl:=inS hd;exact⟨_,_,_,hf,rfl,hc,hfh b hb, .inr (.inl ⟨rfl,rfl,rfl⟩)⟩;rw[hoth i hol hne] at hd;exact⟨i,o,d,ho,by rwa [fS] at hl,hd,hb, .inr (.inr ⟨rfl,hne,Nat.ne_of_lt hol⟩)⟩;rw[hoth i g1 g2] at hd;exact⟨i,p,d,g4,hl,hd,hb, .inr (.inr ⟨rfl,g2,Nat.ne_of_lt g1⟩)⟩
 intro i i' p p' d d' b hp hp' l l' hd hd' hb hb';obtain⟨i0,p0,d0,a1,a2,a3,a4,a5⟩:=src i p d b hp l hd hb;obtain⟨i1,p1,d1,b1,b2,b3,b4,b5⟩:=src i' p' d' b hp' l' hd' hb';have e:=hs.inj i0 i1 p0 p1 d0 d1 b a1 b1 a2 b2 a3 b3 a4 b4;rcases a5 with⟨a6,a7,a8⟩|⟨a6,a7,a8⟩|⟨a6,a7,a8⟩<;>rcases b5 with⟨b6,b7,b8⟩|⟨b6,b7,b8⟩|⟨b6,b7,b8⟩;omega;subst a8;subst b8;exact(hsplit b hb' hb).elim;omega;subst a8;subst b8;exact(hsplit b hb hb').elim;omega;omega;omega;omega;omega;intro v hv;rw[hy] at hv;obtain rfl:=inS hv;simp only[RA];exact⟨0,y,hnid,Nat.le_refl _,λ_=>rfl⟩
def l9(fid ver nid v j:Nat):AV->AV
 | .osf f i v'=>if f=fid/\v'=ver/\i≠j then .osf fid i (ver+1) else .osf f i v'
 | .os n v'=>if n=nid/\v'=v then .osf fid j (ver+1) else .os n v'
 |x=>x
theorem uh{m φ st w}{fid oid nid j T k ver v:Nat}{ess:List (List (List AV))}{es:List (List AV)}{o:AO}(hs:SR m φ st w)(hf:st[fid]? =some (.fam T k ver ess))(hn:st[nid]? =some (.os T k v es))(ho:st[oid]? =some o)(hne:oid≠fid)(hne2:oid≠nid)(hj:j<ess.length):
  ∃m',Ev m φ w m' φ w/\SR m' φ (((st.set fid (.fam T k (ver+1) (ess.set j es))).set nid .dead).set oid (o.mapc (l9 fid ver nid v j))) w:=by
 have hfl:=(giS.1 hf).1;have hnl:=(giS.1 hn).1;have hol:=(giS.1 ho).1;have hfn:fid≠nid:=λh=>by subst h;rw[hf] at hn;cases hn
 obtain⟨c,hc⟩:∃c,m[fid]? =some c:=⟨_,geG (by rw[hs.len];exact hfl)⟩;obtain⟨ys,rfl,h1,h2,h3⟩:=hs.obj fid _ c hf hc;obtain⟨cn,hcn⟩:∃c,m[nid]? =some c:=⟨_,geG (by rw[hs.len];exact hnl)⟩;obtain⟨y,xs,rfl,k1,k2,k3,k4⟩:=hs.obj nid _ cn hn hcn;have hjl:j<ys.length:=by rw[h1];exact hj
 let m':=m.set fid (.fam (ver+1) (ys.set j y));have hfid:m'[fid]? =some (.fam (ver+1) (ys.set j y)):=by simp[m',hs.len,hfl]
 have hoth:∀i,i≠fid->m'[i]? =m[i]? :=λi hif=>by simp only[m'];rw[List.getElem?_set_ne (Ne.symm hif)]
 have hpre:Pre m m':=λi d hd=>by
  by_cases hif:i=fid;subst hif;rw[hc] at hd;obtain rfl:=inS hd;exact⟨_,hfid,sW⟩;exact⟨d,by rw[hoth i hif];exact hd,Cz.le_refl d⟩
 have hsrc:∀b,(Cz.fam (ver+1) (ys.set j y)).has b->(Cz.fam ver ys).has b\/(Cz.tok v y).has b:=by
  rintro b ⟨z,hz,hb⟩;rcases List.mem_or_eq_of_mem_set hz with h|h
  exact .inl ⟨z,h,hb⟩;subst h;exact .inr hb
 have hre:∀x u,RA m φ w x u->RA m' φ w (l9 fid ver nid v j x) u:=by
  intro x u hx;have hm:=RA.mono hpre (Fz.refl φ w) x u hx;cases x with
  |osf f i vv=>simp only[l9];split;rename_i hcond;obtain⟨rfl,rfl,hij⟩:=hcond;simp only[RA] at hx⊢;obtain⟨v0,ys0,q1,q2,q3⟩:=hx;rw[hc] at q1;simp only[ao,Cz.fam.injEq] at q1;obtain⟨rfl,rfl⟩:=q1;exact⟨_,_,hfid,Nat.le_refl _,λ_=>by rw[List.getElem?_set_ne λh=>hij h.symm];exact q3 rfl⟩;exact hm
  |os n vv=>simp only[l9];split;rename_i hcond;obtain⟨rfl,rfl⟩:=hcond;simp only[RA] at hx⊢;obtain⟨v0,y0,q1,q2,q3⟩:=hx;rw[hcn] at q1;simp only[ao,Cz.tok.injEq] at q1;obtain⟨rfl,rfl⟩:=q1;have:=q3 rfl;subst this;exact⟨_,_,hfid,Nat.le_refl _,λ_=>List.getElem?_set_self hjl⟩;exact hm
  |_=>exact hm
 have get:∀(i:Nat)(p:AO),(((st.set fid (.fam T k (ver+1) (ess.set j es))).set nid .dead).set oid (o.mapc (l9 fid ver nid v j)))[i]? =some p->
   (i=oid/\p=o.mapc (l9 fid ver nid v j))\/(i=nid/\p= .dead)\/(i=fid/\p= .fam T k (ver+1) (ess.set j es))\/(i≠fid/\i≠nid/\i≠oid/\st[i]? =some p):=by
  intro i p hp;by_cases hio:i=oid;subst hio;rw[List.getElem?_set_self (by simpa using hol)] at hp;exact .inl ⟨rfl,(inS hp).symm⟩;rw[List.getElem?_set_ne (Ne.symm hio)] at hp;by_cases hin:i=nid;subst hin;rw[List.getElem?_set_self (by simpa using hnl)] at hp;exact .inr (.inl ⟨rfl,(inS hp).symm⟩);rw[List.getElem?_set_ne (Ne.symm hin)] at hp;by_cases hif:i=fid;subst hif;rw[List.getElem?_set_self hfl] at hp;exact .inr (.inr (.inl ⟨rfl,(inS hp).symm⟩));rw[List.getElem?_set_ne (Ne.symm hif)] at hp;exact .inr (.inr (.inr ⟨hif,hin,hio,hp⟩))
 have hnw:∀b,In m' b->In m b:=by
  rintro b ⟨i,d,hd,hb⟩;by_cases hif:i=fid;subst hif;rw[hfid] at hd;obtain rfl:=inS hd;rcases hsrc b hb with h|h
  exact⟨i,_,hc,h⟩;exact⟨nid,_,hcn,h⟩;rw[hoth i hif] at hd;exact⟨i,d,hd,hb⟩
 refine⟨m',⟨hpre,λb h=> .inl (hnw b h),rfl,rfl,rfl,Nat.le_refl _,λ_ _ _=>⟨rfl,rfl⟩,Fz.refl φ w⟩,⟨by simp[m',hs.len],?_,hs.lt,?_,hs.gl,λb h=>hs.nb b (hnw b h)⟩⟩;intro i p d hp hd;rcases get i p hp with⟨rfl,rfl⟩|⟨rfl,rfl⟩|⟨rfl,rfl⟩|⟨g1,g2,g3,g4⟩
 rw[hoth i hne] at hd;exact(hs.obj i o d ho hd).mapc hre (λ_ _=>⟨rfl,rfl⟩);trivial;rw[hfid] at hd;obtain rfl:=inS hd;refine⟨_,rfl,by simp[h1],λi' es' y' hi' hy'=>?_,λa b z z' bb ha hb hz hz'=>?_⟩;by_cases hij:i'=j;subst hij;rw[List.getElem?_set_self hj] at hi';rw[List.getElem?_set_self hjl] at hy';obtain rfl:=inS hi';obtain rfl:=inS hy';exact⟨xs,k1,RAs.mono hpre (Fz.refl φ w) _ _ k2,k3,k4⟩;rw[List.getElem?_set_ne (Ne.symm hij)] at hi' hy';obtain⟨xs,q1,q2,q3,q4⟩:=h2 i' es' y' hi' hy';exact⟨xs,q1,RAs.mono hpre (Fz.refl φ w) _ _ q2,q3,q4⟩;have cross:∀(a:Nat)(z:Value),a≠j->(ys.set j y)[a]? =some z->z.ownBlock=some bb->y.ownBlock=some bb->False:=λa z haj ha hz hy=>by
  rw[List.getElem?_set_ne (Ne.symm haj)] at ha;exact hfn (hs.inj _ nid _ _ (.fam _ ys) (.tok v y) bb hf hn rfl rfl hc hcn ⟨z,List.mem_of_getElem? ha,hz⟩ hy)
 by_cases haj:a=j;subst haj;rw[List.getElem?_set_self hjl] at ha;obtain rfl:=inS ha;by_cases hbj:b=a;exact hbj.symm;exact(cross b z' hbj hb hz' hz).elim;by_cases hbj:b=j;subst hbj;rw[List.getElem?_set_self hjl] at hb;obtain rfl:=inS hb;exact(cross a z haj ha hz hz').elim;rw[List.getElem?_set_ne (Ne.symm haj)] at ha;rw[List.getElem?_set_ne (Ne.symm hbj)] at hb;exact h3 a b z z' bb ha hb hz hz';rw[hoth i g1] at hd;exact(hs.obj i p d g4 hd).congr hpre (Fz.refl φ w) (λ_ _=>⟨rfl,rfl⟩);have src:∀(i:Nat)(p:AO)(d:Cz)(b:Nat),(((st.set fid (.fam T k (ver+1) (ess.set j es))).set nid .dead).set oid (o.mapc (l9 fid ver nid v j)))[i]? =some p->p.live=true->m'[i]? =some d->d.has b->
   ∃(i0:Nat)(p0:AO)(d0:Cz),st[i0]? =some p0/\p0.live=true/\m[i0]? =some d0/\d0.has b/\((i=fid/\(i0=fid\/i0=nid))\/(i=i0/\i≠fid/\i≠nid)):=by
  intro i p d b hp hl hd hb;rcases get i p hp with⟨rfl,rfl⟩|⟨rfl,rfl⟩|⟨rfl,rfl⟩|⟨g1,g2,g3,g4⟩
  rw[hoth i hne] at hd;exact⟨i,o,d,ho,by rwa [fS] at hl,hd,hb, .inr ⟨rfl,hne,hne2⟩⟩;cases hl;rw[hfid] at hd;obtain rfl:=inS hd;rcases hsrc b hb with h|h
  exact⟨_,_,_,hf,rfl,hc,h, .inl ⟨rfl, .inl rfl⟩⟩;exact⟨_,_,_,hn,rfl,hcn,h, .inl ⟨rfl, .inr rfl⟩⟩;rw[hoth i g1] at hd;exact⟨i,p,d,g4,hl,hd,hb, .inr ⟨rfl,g1,g2⟩⟩
 intro i i' p p' d d' b hp hp' l l' hd hd' hb hb';obtain⟨i0,p0,d0,a1,a2,a3,a4,a5⟩:=src i p d b hp l hd hb;obtain⟨i1,p1,d1,b1,b2,b3,b4,b5⟩:=src i' p' d' b hp' l' hd' hb';have e:=hs.inj i0 i1 p0 p1 d0 d1 b a1 b1 a2 b2 a3 b3 a4 b4;rcases a5 with⟨a6,a7⟩|⟨a6,a7,a8⟩<;>rcases b5 with⟨b6,b7⟩|⟨b6,b7,b8⟩
 omega;omega;omega;omega
def rn(fid ver:Nat)(dss:List (List (List D))):AV->AV
 | .osf f i v=>if f=fid/\v=ver/\i<dss.length then .d (.sl (dss.getD i [])) else .osf f i v
 |x=>x
theorem ui{m φ st w}{fid oid T k ver:Nat}{dss:List (List (List D))}{o:AO}(hs:SR m φ st w)(hf:st[fid]? =some (.fam T k ver (dss.map λds=>ds.map λe=>e.map AV.d)))(ho:st[oid]? =some o)(hne:oid≠fid):
  ∃φ',Ev m φ w m φ' w/\SR m φ' ((st.set fid .dead).set oid (o.mapc (rn fid ver dss))) w:=by
 have hfl:=(giS.1 hf).1;have hol:=(giS.1 ho).1;obtain⟨c,hc⟩:∃c,m[fid]? =some c:=⟨_,geG (by rw[hs.len];exact hfl)⟩;obtain⟨ys,rfl,h1,h2,h3⟩:=hs.obj fid _ c hf hc;rw[List.length_map] at h1;let φ':Nat->Nat:=λb=>match ys.findIdx? (λy=>decide (y.ownBlock=some b)) with
  |some j=>(dss.getD j []).length*k
  |none=>φ b
 have at_:∀(j:Nat)(y:Value)(b:Nat),ys[j]? =some y->y.ownBlock=some b->φ' b=(dss.getD j []).length*k:=λj y b hj hb=>by
  have hjl:=(giS.1 hj).1;have:ys.findIdx? (λy=>decide (y.ownBlock=some b))=some j:=by rw[List.findIdx?_eq_some_iff_getElem];refine⟨hjl,?_,λi hi=>?_⟩;have:=(giS.1 hj).2;rw[this];simpa using hb;simp only[decide_eq_true_eq];intro hbi;have:=h3 i j ys[i] y b (geG oM) hj hbi hb;omega
  show(match ys.findIdx? (λy=>decide (y.ownBlock=some b)) with
   |some j=>(dss.getD j []).length*k
   |none=>φ b)=_
  rw[this]
 have off_:∀b,¬(Cz.fam ver ys).has b->φ' b=φ b:=λb hb=>by
  have:ys.findIdx? (λy=>decide (y.ownBlock=some b))=none:=by rw[List.findIdx?_eq_none_iff];intro y hy;simp only[decide_eq_false_iff_not];exact λh=>hb ⟨y,hy,h⟩
  show(match ys.findIdx? (λy=>decide (y.ownBlock=some b)) with
   |some j=>(dss.getD j []).length*k
   |none=>φ b)=_
  rw[this]
 have memb:∀(j:Nat)(y:Value),ys[j]? =some y->∃ds xs,dss[j]? =some ds/\w.ownsRow 0 T k y ds.length xs/\RFs φ w ds.flatten xs/\(∀e∈ds,e.length=k)/\∀b,y.ownBlock=some b->φ b=0:=λj y hj=>by
  have hjl:j<dss.length:=by rw[<-h1];exact(giS.1 hj).1
  obtain⟨xs,q1,q2,q3,q4⟩:=h2 j _ y (by rw[List.getElem?_map,geG hjl];rfl) hj;refine⟨dss[j],xs,geG hjl,by simpa using q1,?_,λe he=>?_,q4⟩;have hfl:(dss[j].map λe=>e.map AV.d).flatten=dss[j].flatten.map AV.d:=by simp[List.map_flatten]
  rw[hfl] at q2;exact bO q2;have:=q3 (e.map AV.d) (List.mem_map_of_mem he);simpa using this
 have zero:∀b,(Cz.fam ver ys).has b->φ b=0:=by rintro b ⟨y,hy,hb⟩;obtain⟨j,hj⟩:=List.mem_iff_getElem?.1 hy;obtain⟨ds,xs,_,_,_,_,q⟩:=memb j y hj;exact q b hb
 have hF:Fz φ w φ' w:=λb off cc g1 g2=>by
  refine⟨?_,g2⟩;rw[off_ b (λh=>by have:=zero b h;omega)];exact g1
 have hlt:∀b,w.heap.size<=b->φ' b=0:=λb hb=>by
  by_cases h:(Cz.fam ver ys).has b;have:=(hs.obj fid _ _ hf hc).block_lt rfl h;omega;rw[off_ b h];exact hs.lt b hb
 have data:∀(j:Nat)(y:Value),ys[j]? =some y->RD φ' w (.sl (dss.getD j [])) y:=λj y hj=>by
  obtain⟨ds,xs,q0,q1,q2,q3,q4⟩:=memb j y hj;have hg:dss.getD j []=ds:=by rw[List.getD_eq_getElem?_getD,q0,Option.getD_some]
  rw[hg];have q2':=RFs.mono hF _ _ q2;simp only[RD];rcases q1.2 with⟨rfl,hn⟩|⟨g,cap,cur,rfl,_,hgc,hnc,_,_,_⟩
  exact .inl ⟨List.eq_nil_of_length_eq_zero hn,none,0,rfl,λ_=>rfl⟩;refine .inr ⟨g,0,k,cap,rfl,hnc,q3,fN q3 q2' λi v hi=>⟨?_,?_⟩⟩;rw[at_ j _ g hj rfl,hg];have:=cF hi;have:=q1.1;omega;have:=kA q1 hi;simpa using this
 have hre:∀x v,RA m φ w x v->RA m φ' w (rn fid ver dss x) v:=by
  intro x v hx;have hm:=RA.mono (Pre.refl m) hF x v hx;cases x with
  |osf f i vv=>simp only[rn];split;rename_i hcond;obtain⟨rfl,rfl,hi⟩:=hcond;simp only[RA] at hx⊢;obtain⟨v0,ys0,q1,q2,q3⟩:=hx;rw[hc] at q1;simp only[ao,Cz.fam.injEq] at q1;obtain⟨rfl,rfl⟩:=q1;exact data i v (q3 rfl);exact hm
  |_=>exact hm
 have hk:∀(i:Nat)(p:AO)(d:Cz)(b:Nat),i≠fid->st[i]? =some p->p.live=true->m[i]? =some d->d.has b->w.heap[b]? =w.heap[b]?/\φ' b=φ b:=λi p d b hif h1 hl h2 hb=>
  ⟨rfl,off_ b λh=>hif (hs.inj i fid p _ d _ b h1 hf hl rfl h2 hc hb h)⟩
 refine⟨φ',⟨Pre.refl m,λb h=> .inl h,rfl,rfl,rfl,Nat.le_refl _,λb _ hb=>⟨rfl,off_ b λh=>hb ⟨fid,_,hc,h⟩⟩,hF⟩,⟨by simp[hs.len],λi p d hp hd=>?_,hlt,λi i' p p' d d' b hp hp' l l' hd hd' hb hb'=>?_,hs.gl.mono hF,hs.nb⟩⟩;by_cases hio:i=oid;subst hio;rw[List.getElem?_set_self (by simpa using hol)] at hp;obtain rfl:=inS hp;have h:=hs.obj i o d ho hd;cases hl:o.live with
 |true=>exact h.mapc hre (λb hb=>hk i o d b hne ho hl hd hb)
 |false=>cases o<;>first|trivial|exact h|(simp[AO.live] at hl;done)
 rw[List.getElem?_set_ne (Ne.symm hio)] at hp;by_cases hif:i=fid;subst hif;rw[List.getElem?_set_self hfl] at hp;obtain rfl:=inS hp;trivial;rw[List.getElem?_set_ne (Ne.symm hif)] at hp;have h:=hs.obj i p d hp hd;cases hl:p.live with
 |true=>exact h.congr (Pre.refl m) hF (λb hb=>hk i p d b hif hp hl hd hb)
 |false=>cases p<;>first|trivial|exact h|(simp[AO.live] at hl;done)
 have back:∀(i:Nat)(p:AO),((st.set fid .dead).set oid (o.mapc (rn fid ver dss)))[i]? =some p->p.live=true->∃p0,st[i]? =some p0/\p0.live=true:=by intro i p hp hl;by_cases hio:i=oid;subst hio;rw[List.getElem?_set_self (by simpa using hol)] at hp;obtain rfl:=inS hp;exact⟨o,ho,by rwa [fS] at hl⟩;rw[List.getElem?_set_ne (Ne.symm hio)] at hp;by_cases hif:i=fid;subst hif;rw[List.getElem?_set_self hfl] at hp;obtain rfl:=inS hp;cases hl;rw[List.getElem?_set_ne (Ne.symm hif)] at hp;exact⟨p,hp,hl⟩
 obtain⟨p0,a1,a2⟩:=back i p hp l;obtain⟨p1,b1,b2⟩:=back i' p' hp' l';exact hs.inj i i' p0 p1 d d' b a1 b1 a2 b2 hd hd' hb hb'
end Go.Sk
namespace Go.Sk
open Go.RowKit (Below)
def cy(fid ver n:Nat):List (List AV):=(List.range n).map λi=> [AV.osf fid i ver]
abbrev d8{α:Type}(R:α->List D)(L:List (List α)):List (List (List AV)):=L.map λl=>l.map (aJ R)
theorem fe(fid ver n:Nat):(cy fid ver n).length=n:=by simp[cy]
theorem oT{fid ver n:Nat}:∀e∈cy fid ver n,e.length=1:=λe he=>by
 simp only[cy,List.mem_map] at he;obtain⟨i,_,rfl⟩:=he;rfl
theorem oR{α:Type}:∀{es:List (List α)}{i:Nat}{x:α},(∀e∈es,e.length=1)->es[i]? =some [x]->es.flatten[i]? =some x
 |[],i,x,_,h=>by simp at h
 |e::es,i,x,hl,h=>by
  have he:=hl e sM;match e,he with
  |[y],_=>
   cases i with
   |zero=>simp only[List.getElem?_cons_zero,ao,List.cons.injEq,and_true] at h;subst h;simp
   |succ i=>simp only[List.getElem?_cons_succ] at h;simpa using oR (λe he=>hl e (by simp[he])) h
theorem iC{fid ver n j:Nat}{x:AV}:∀e∈(cy fid ver n).set j [x],e.length=1:=λe he=>by
 rcases List.mem_or_eq_of_mem_set he with h|h
 exact oT e h;subst h;rfl
theorem sX{fid ver n j:Nat}{x:AV}(hj:j<n):((cy fid ver n).set j [x]).flatten[j]? =some x:=
 oR iC (by rw[List.getElem?_set_self (by rw[fe];exact hj)])
theorem ro{fid ver n j nid:Nat}(_hj:j<n):((cy fid ver n).map λe=>e.map (gO fid ver j nid))=(cy fid (ver+1) n).set j [.os nid 0]:=by apply List.ext_getElem?;intro i;simp only[cy,List.map_map,List.getElem?_map,List.getElem?_set,List.length_map,List.length_range];by_cases hi:i<n;rw[List.getElem?_range hi];by_cases hij:j=i;subst hij;simp[gO,hi];have:¬i=j:=λh=>hij h.symm;simp[gO,hij,this];rw[List.getElem?_eq_none (by simpa using Nat.le_of_not_lt hi)];by_cases hij:j=i;subst hij;omega;simp[hij]
theorem sY{fid ver n j nid v:Nat}(_hj:j<n):(((cy fid ver n).set j [.os nid v]).map λe=>e.map (l9 fid ver nid v j))=cy fid (ver+1) n:=by apply List.ext_getElem?;intro i;simp only[cy,List.getElem?_map,List.getElem?_set,List.length_map,List.length_range];by_cases hi:i<n;rw[List.getElem?_range hi];by_cases hij:j=i;subst hij;simp[l9,hi];have:¬i=j:=λh=>hij h.symm;simp[l9,hij,this];rw[List.getElem?_eq_none (by simpa using Nat.le_of_not_lt hi)];by_cases hij:j=i;subst hij;omega;simp[hij]
theorem sZ{fid ver:Nat}{dss:List (List (List D))}:((cy fid ver dss.length).map λe=>e.map (rn fid ver dss))=dss.map λds=> [AV.d (.sl ds)]:=by apply List.ext_getElem?;intro i;simp only[cy,List.map_map,List.getElem?_map];by_cases hi:i<dss.length;rw[List.getElem?_range hi,geG hi];simp[rn,hi,List.getD_eq_getElem?_getD];rw[List.getElem?_eq_none (by simpa using Nat.le_of_not_lt hi),List.getElem?_eq_none (Nat.le_of_not_lt hi)];rfl
section
variable{P:Program}{e:En}{ops:Array Oper}{l rest:List Oper}{env:Env}{st:List AO}{R:Env->List AO->Prop}{K:Ko}
def Gh(e:En)(env:Env)(st:List AO)(env':Env)(st':List AO):Prop:=∀m φ a w,Inv e m φ env st a w->∃m' φ',Inv e m' φ' env' st' a w
theorem tB{c:Code}{env':Env}{st':List AO}(h:Gh e env st env' st')(k:WC P e c K env' st'):WC P e c K env st:=λm φ a w hi=>
 let ⟨m',φ',hi'⟩:=h m φ a w hi
 k m' φ' a w hi'
theorem eS{env':Env}{st':List AO}(h:Gh e env st env' st')(k:WL P e ops l env' st' R):WL P e ops l env st R:=λm φ a w hi=>
 let ⟨m',φ',hi'⟩:=h m φ a w hi
 k m' φ' a w hi'
theorem iR{x:Exit}{env':Env}{st':List AO}(h:Gh e env st env' st')(k:WE P e x K env' st'):WE P e x K env st:=λm φ a w hi=>
 let ⟨m',φ',hi'⟩:=h m φ a w hi
 k m' φ' a w hi'
theorem eB(T k:Nat):Gh e env st env (st++ [.os T k 0 []]):=λ_ _ _ _ hi=>
 let ⟨h1,h2⟩:=jW (T:=T) (k:=k) hi.sr
 ⟨_,_,hi.go h1 h2⟩
theorem sV{m φ st w}{T k:Nat}(n:Nat)(hs:SR m φ st w):Ev m φ w (m++ [.fam 0 (List.replicate n gh)]) φ w/\SR (m++ [.fam 0 (List.replicate n gh)]) φ (st++ [.fam T k 0 (List.replicate n [])]) w:=by
 have hnew:∀b,(Cz.fam 0 (List.replicate n gh)).has b->w.heap.size<=b:=by rintro b ⟨y,hy,hb⟩;rw[(List.mem_replicate.1 hy).2] at hb;exact(cU hb).elim
 refine⟨Ev.push hs (Fz.refl φ w) (λ_ _=>rfl) (Nat.le_refl _) rfl rfl rfl hnew,SR.push hs (Fz.refl φ w) (λ_ _=>rfl) (Nat.le_refl _) ?_ hnew⟩;refine⟨_,rfl,sM,λj es y hj hy=>?_,λi j y y' b hi _ hb _=>?_⟩;rw[List.getElem?_replicate] at hj hy;split at hj;rename_i hl;rw[if_pos hl] at hy;obtain rfl:=inS hj;obtain rfl:=inS hy;exact⟨[],World.ownsRow_nil w 0 T k,by simp[RAs],sM,λb hb=>(cU hb).elim⟩;cases hj;rw[List.getElem?_replicate] at hi;split at hi;obtain rfl:=inS hi;exact(cU hb).elim;cases hi
theorem kX{α:Type}(E:α->List D)(oid T k:Nat){To v n:Nat}(hs:st[oid]? =some (.os To 1 v (List.replicate n [.d (.v (.slice none 0 0))]))):
  Gh e env st env ((st.set oid (.os To 1 v (cy st.length 0 (List.replicate n ([]:List α)).length)))++ [.fam T k 0 (d8 E (List.replicate n []))]):=λm φ a w hi=>by
 obtain⟨h1,h2⟩:=sV (T:=T) (k:=k) n hi.sr;have h3:=hi.go h1 h2;have hol:=(giS.1 hs).1;have ho:(st++ [AO.fam T k 0 (List.replicate n [])])[oid]? =some (.os To 1 v (List.replicate n [.d (.v (.slice none 0 0))])):=by rw[List.getElem?_append_left hol];exact hs
 have h4:=h3.sr.alter (o':= .os To 1 v (cy st.length 0 n)) ho rfl (λc hc=>by
  rintro⟨y,xs,rfl,q1,q2,q3,q4⟩;refine⟨y,xs,rfl,by rw[fe];simpa using q1,?_,oT,q4⟩;have hf:(m++ [Cz.fam 0 (List.replicate n gh)])[st.length]? =some (.fam 0 (List.replicate n gh)):=by rw[<-hi.sr.len];simp
  have key:∀(l:List Nat)(vs:List Value),(∀i∈l,i<n)->RAs (m++ [Cz.fam 0 (List.replicate n gh)]) φ w (List.replicate l.length [AV.d (.v (.slice none 0 0))]).flatten vs->RAs (m++ [Cz.fam 0 (List.replicate n gh)]) φ w (l.map λi=> [AV.osf st.length i 0]).flatten vs:=by
   intro l;induction l with
   |nil=>intro vs _ h;simpa using h
   |cons i l ih=>intro vs hl h;simp only[List.length_cons,List.replicate_succ,List.flatten_cons,List.singleton_append,RAs] at h;obtain⟨c,cs,rfl,r1,r2⟩:=h;simp only[List.map_cons,List.flatten_cons,List.singleton_append];refine aC ?_ (ih cs (λi hi=>hl i (by simp[hi])) r2);simp only[RA,RD] at r1⊢;subst r1;exact⟨0,_,hf,Nat.le_refl _,λ_=>by rw[List.getElem?_replicate,if_pos (hl i sM)];rfl⟩
  have:=key (List.range n) xs (λi hi=>List.mem_range.1 hi) (by simpa using q2);exact this)
 refine⟨_,φ,⟨?_,h3.ev,h3.env,h3.sz,h3.df⟩⟩;have e1:(st++ [AO.fam T k 0 (List.replicate n [])]).set oid (.os To 1 v (cy st.length 0 n))=(st.set oid (.os To 1 v (cy st.length 0 n)))++ [.fam T k 0 (List.replicate n [])]:=by rw[List.set_append_left _ _ hol]
 rw[e1] at h4;simpa[d8] using h4
theorem jL{α:Type}{E:α->List D}{L:List (List α)}{x:List α}{i:Int}(oid fid:Nat){To vo T k ver:Nat}(ho:st[oid]? =some (.os To 1 vo (cy fid ver L.length)))(hf:st[fid]? =some (.fam T k ver (d8 E L)))(hne:Nat.beq oid fid=false)(hi:idx L i=some x):
  Gh e env st env (((st.set fid (.fam T k (ver+1) (d8 E (L.set i.toNat [])))).set oid (.os To 1 vo ((cy fid (ver+1) L.length).set i.toNat [.os st.length 0])))++ [.os T k 0 (x.map (aJ E))]):=λm φ a w hinv=>by
 have hne':oid≠fid:=λh=>by simp[h] at hne
 have hx:=dp hi;have hlt:=(giS.1 hx).1;obtain⟨m',y,_,h2,h3,_⟩:=sU (es:=x.map (aJ E)) hinv.sr hf ho hne' (by rw[List.getElem?_map,hx];rfl);have h4:=hinv.go h2 h3;simp only[AO.mapc] at h4;rw[ro hlt] at h4;refine⟨m',φ,?_⟩;simpa[d8,List.map_set] using h4
theorem pW{α:Type}{E:α->List D}{L:List (List α)}{_x x':List α}{j:Nat}(oid fid nid:Nat)(L':List (List α)){To vo T k ver v:Nat}(ho:st[oid]? =some (.os To 1 vo ((cy fid ver L.length).set j [.os nid v])))(hf:st[fid]? =some (.fam T k ver (d8 E L)))(hn:st[nid]? =some (.os T k v (x'.map (aJ E))))(hne:Nat.beq oid fid=false)(hne2:Nat.beq oid nid=false)(hj:j<L.length)(hL:L.set j x'=L'):
  Gh e env st env (((st.set fid (.fam T k (ver+1) (d8 E L'))).set nid .dead).set oid (.os To 1 vo (cy fid (ver+1) L'.length))):=λm φ a w hinv=>by
 subst hL;have hne':oid≠fid:=λh=>by simp[h] at hne
 have hne2':oid≠nid:=λh=>by simp[h] at hne2
 obtain⟨m',h2,h3⟩:=uh (j:=j) hinv.sr hf hn ho hne' hne2' (by simpa using hj);have h4:=hinv.go h2 h3;simp only[AO.mapc] at h4;rw[sY hj] at h4;refine⟨m',φ,?_⟩;simpa[d8,List.map_set] using h4
theorem kY{α:Type}{E R':α->List D}{L:List (List α)}(oid fid:Nat){To vo T k ver:Nat}(hE:∀x,E x=R' x)(ho:st[oid]? =some (.os To 1 vo (cy fid ver L.length)))(hf:st[fid]? =some (.fam T k ver (d8 R' L)))(hne:Nat.beq oid fid=false):
  Gh e env st env ((st.set fid .dead).set oid (.os To 1 vo (L.map (aJ λl=> [D.sl (l.map E)])))):=λm φ a w hinv=>by
 have hne':oid≠fid:=λh=>by simp[h] at hne
 have hf':st[fid]? =some (.fam T k ver ((L.map λl=>l.map E).map λds=>ds.map λe=>e.map AV.d)):=by rw[hf,List.map_map];congr 2;apply List.map_congr_left;intro l _;exact an hE l
 obtain⟨φ',h2,h3⟩:=ui hinv.sr hf' ho hne';have h4:=hinv.go h2 h3;simp only[AO.mapc] at h4;have:=sZ (fid:=fid) (ver:=ver) (dss:=L.map λl=>l.map E);rw[List.length_map] at this;rw[this] at h4;refine⟨m,φ',?_⟩;rw[List.map_map] at h4;exact h4
end
end Go.Sk
namespace Go.Sk
open Go.RowKit (Below)
section
variable{P:Program}{env:Env}{st:List AO}{dst:Option Tmp}{ty:TypeId}{pos:String}{after:Array Edge}{guard:Option (Nat×Bool)}
theorem oV{T:TypeId}{x y:Operand}{id ver off T' k:Nat}{es es':List (List AV)}{r:AV}(hx:opv env x=some (.pe id ver off))(hs:st[id]? =some (.os T' k ver es))(hy:opv env y=some r)
  (hone:∀m φ w v,SR m φ st w->RA m φ w r v->v.oneCell'=true/\v.cells= #[v])
  (hn:bn P T=some 1)(hlen:off+1<=es.flatten.length)(hes:es'.flatten=es.flatten.take off++ [r]++es.flatten.drop (off+1))(hel:es'.length=es.length)(hek:∀e∈es',e.length=k):
  Does P env st ⟨dst, .store T x y,ty,pos,after,guard⟩ (.d (.v undef)) (st.set id (.os T' k ver es')):=λm φ a w hsr he=>by
 obtain⟨b,len,cap,xs,g1,g2,g3,g4,g5,g6⟩:=kC hsr he hx hs;have q0:=bc he hy;obtain⟨o1,o2⟩:=hone m φ w _ hsr q0;have q2:RAs m φ w [r] [a.eval y]:=aC q0 bB;have hxl:=aS g4;obtain⟨r1,r2⟩:=g3;rcases r2 with⟨hv,_⟩|⟨g,cap',cur,hv,p1,p2,p3,p4,p5,p6⟩
 cases hv;simp only[Value.slice.injEq,ao,Addr.mk.injEq,and_true] at hv;obtain⟨rfl,rfl,rfl⟩:=hv;have hcl:es.length*k<=cur.size:=by rw[p5];exact Nat.mul_le_mul_right _ p3
 have hfl:es.flatten.length=es.length*k:=oM;have hst:=run_storeCells_at P b off T' [a.eval y] 0 cur w p2 (by simp;omega) (by simpa using o1);simp only[Nat.add_zero,List.length_singleton] at hst;have hnew:RAs m φ w es'.flatten (xs.take off++ [a.eval y]++xs.drop (off+1)):=by rw[hes];exact aH (aH (bT off g4) q2) (cz _ g4)
 have htk:((cur.toList.take off++ [a.eval y]++cur.toList.drop (off+1)).toArray.toList).take (es.length*k)=xs.take off++ [a.eval y]++xs.drop (off+1):=by rw[<-p6];apply List.ext_getElem?;intro j;have hcz:cur.toList.length=cur.size:=sM;have hsize:[a.eval y].length=1:=rfl;simp only[List.getElem?_take,List.getElem?_append,List.length_append,List.length_take,List.getElem?_drop,hsize,hcz];rw[Nat.min_eq_left (show off<=cur.size by omega),Nat.min_eq_left (show es.length*k<=cur.size by omega),Nat.min_eq_left (show off<=es.length*k by omega)];by_cases h1:j<es.length*k;rw[if_pos h1];by_cases h2:j<off+1;rw[if_pos h2,if_pos h2];by_cases h3:j<off;simp only[if_pos h3,if_pos h1];simp only[if_neg h3];rw[if_neg h2,if_neg h2];have:off+1+(j - (off+1))=j:=oM;rw[this,if_pos h1];rw[if_neg h1,if_neg (show¬j<off+1 by omega)];have:off+1+(j - (off+1))=j:=oM;rw[this,if_neg h1]
 obtain⟨k1,k2⟩:=pL hsr hs g1 hnew hel hek cur p2 (cur.toList.take off++ [a.eval y]++cur.toList.drop (off+1)).toArray (by simp;omega) htk;refine⟨undef,_,m,φ, .inr ⟨?_,rfl⟩,k1,k2,RAv⟩;simp[execOp,Instr.storeAt,Instr.sureAddr,g2,storeVar,o2,ax hn,hst]
theorem om{α:Type}:∀{es:List (List α)}{i:Nat}{x:α},(∀e∈es,e.length=1)->i<es.length->(es.set i [x]).flatten=es.flatten.take i++ [x]++es.flatten.drop (i+1)
 |[],i,x,_,h=>by simp at h
 |e::es,i,x,hl,h=>by
  have he:=hl e sM;match e,he with
  |[y],_=>
   cases i with
   |zero=>simp
   |succ i=>have:=om (x:=x) (λe he=>hl e (by simp[he])) (show i<es.length by simpa using h);simp only[List.set_cons_succ,List.flatten_cons,this];simp
theorem qo{α:Type}:∀{es:List (List α)},(∀e∈es,e.length=1)->es.flatten.length=es.length
 |[],_=>rfl
 |e::es,h=>by
  have h1:=qo (es:=es) (λe' he=>h e' (by simp[he]));have h2:=h e sM;simp only[List.flatten_cons,List.length_append,List.length_cons];omega
theorem iE{T:TypeId}{x y:Operand}{oid vo fid ver nid v To n:Nat}{T' k':Nat}{es:List (List AV)}{i:Int}{z:AV}(hx:opv env x=some (.pe oid vo (i.toNat*1)))(hs:st[oid]? =some (.os To 1 vo ((cy fid ver n).set i.toNat [z])))(hy:opv env y=some (.os nid v))(hn:st[nid]? =some (.os T' k' v es))(hT:bn P T=some 1)(hi:i.toNat<n):
  Does P env st ⟨dst, .store T x y,ty,pos,after,guard⟩ (.d (.v undef)) (st.set oid (.os To 1 vo ((cy fid ver n).set i.toNat [.os nid v]))):=by
 rw[Nat.mul_one] at hx;refine oV hx hs hy (bh hn) hT (by rw[qo iC,List.length_set,fe];omega) ?_ sM iC;have:=om (es:=(cy fid ver n).set i.toNat [z]) (i:=i.toNat) (x:=AV.os nid v) iC (by rw[List.length_set,fe];exact hi);rwa [List.set_set] at this
theorem ko{T:TypeId}{x:Operand}{oid vo fid ver To n:Nat}{i:Int}{z:AV}(hx:opv env x=some (.pe oid vo (i.toNat*1)))(hs:st[oid]? =some (.os To 1 vo ((cy fid ver n).set i.toNat [z])))(hT:aW P T=some false)(hi:i.toNat<n):Yields P env st ⟨dst, .load T x,ty,pos,after,guard⟩ z:=by rw[Nat.mul_one] at hx;exact cM hx hs hT (sX hi)
theorem nM{T n0:Nat}{bb:Bool}{x ix:Operand}{id ver fid vf T' k:Nat}{n:Nat}{kk:IntKind}{i:Int}(hT:aP P T=some (n0,bb))(hx:opv env x=some (.os id ver))(hs:st[id]? =some (.os T' k ver (cy fid vf n)))(hi:opv env ix=some (.d (.v (.int kk i))))(h0:0<=i)(h1:i<n):
  Yields P env st ⟨dst, .indexAddr T x ix,ty,pos,after,guard⟩ (.pe id ver (i.toNat*n0)):=
 bm hT hx hs hi h0 (by rw[fe];exact h1)
theorem mc{T n0:Nat}{bb:Bool}{x ix:Operand}{id ver fid vf T' k:Nat}{n j:Nat}{z:AV}{kk:IntKind}{i:Int}(hT:aP P T=some (n0,bb))(hx:opv env x=some (.os id ver))(hs:st[id]? =some (.os T' k ver ((cy fid vf n).set j [z])))(hi:opv env ix=some (.d (.v (.int kk i))))(h0:0<=i)(h1:i<n):
  Yields P env st ⟨dst, .indexAddr T x ix,ty,pos,after,guard⟩ (.pe id ver (i.toNat*n0)):=
 bm hT hx hs hi h0 (by rw[List.length_set,fe];exact h1)
end
section
variable{P:Program}{e:En}{ops:Array Oper}{l rest:List Oper}{env:Env}{st:List AO}{R:Env->List AO->Prop}{K:Ko}
theorem nj(ts:List Nat)(cl:List (Nat×Nat))(r k:Nat){T kk ver vk:Nat}{es esk:List (List AV)}(hr:st[r]? =some (.os T kk ver es))(hk:st[k]? =some (.os T kk vk esk))(hne:Nat.beq r k=false)
  (ht:gH env r ver ts)(hc:eR ((st.set r .dead).set k (.os T kk (vk+ver+1) es)) r ver (.os k (vk+ver+1)) cl):
  Gh e env st (ts.map (λt=>(t, .os k (vk+ver+1)))++env) (dh (.os k (vk+ver+1)) cl ((st.set r .dead).set k (.os T kk (vk+ver+1) es))):=λm φ a w hi=>by
 have hne':r≠k:=λh=>by simp[h] at hne
 have hrl:=(giS.1 hr).1;have hkl:=(giS.1 hk).1;have hlen:=hi.sr.len;obtain⟨cr,hcr⟩:∃c,m[r]? =some c:=⟨_,geG (by rw[hlen];exact hrl)⟩;obtain⟨ck,hck⟩:∃c,m[k]? =some c:=⟨_,geG (by rw[hlen];exact hkl)⟩;obtain⟨y,xs,rfl,p1,p2,p3,p4⟩:=hi.sr.obj r _ cr hr hcr;obtain⟨yk,xk,rfl,_⟩:=hi.sr.obj k _ ck hk hck;let m':=m.set k (.tok (vk+ver+1) y);have hm'k:m'[k]? =some (.tok (vk+ver+1) y):=by simp[m',hlen,hkl]
 have hoth:∀i,i≠k->m'[i]? =m[i]? :=λi hi=>by simp only[m'];rw[List.getElem?_set_ne (Ne.symm hi)]
 have hpre:Pre m m':=λi d hd=>by
  by_cases hik:i=k;subst hik;rw[hck] at hd;obtain rfl:=inS hd;exact⟨_,hm'k, .inr ⟨_,_,rfl,oM⟩⟩;exact⟨d,by rw[hoth i hik];exact hd,Cz.le_refl d⟩
 have hnw:∀b,In m' b->In m b:=by rintro b ⟨i,d,hd,hb⟩;by_cases hik:i=k;subst hik;rw[hm'k] at hd;obtain rfl:=inS hd;exact⟨r,_,hcr,hb⟩;rw[hoth i hik] at hd;exact⟨i,d,hd,hb⟩
 have hev:Ev m φ w m' φ w:=⟨hpre,λb h=> .inl (hnw b h),rfl,rfl,rfl,Nat.le_refl _,λ_ _ _=>⟨rfl,rfl⟩,Fz.refl φ w⟩;have hsr:SR m' φ ((st.set r .dead).set k (.os T kk (vk+ver+1) es)) w:=by
  have get:∀(i:Nat)(p:AO),((st.set r .dead).set k (.os T kk (vk+ver+1) es))[i]? =some p->(i=k/\p= .os T kk (vk+ver+1) es)\/(i=r/\p= .dead)\/(i≠k/\i≠r/\st[i]? =some p):=by intro i p hp;by_cases hik:i=k;subst hik;rw[List.getElem?_set_self (by simpa using hkl)] at hp;exact .inl ⟨rfl,(inS hp).symm⟩;rw[List.getElem?_set_ne (Ne.symm hik)] at hp;by_cases hir:i=r;subst hir;rw[List.getElem?_set_self hrl] at hp;exact .inr (.inl ⟨rfl,(inS hp).symm⟩);rw[List.getElem?_set_ne (Ne.symm hir)] at hp;exact .inr (.inr ⟨hik,hir,hp⟩)
  refine⟨by simp[m',hlen],λi p d hp hd=>?_,hi.sr.lt,λi i' p p' d d' b hp hp' l1 l2 hd hd' hb hb'=>?_,hi.sr.gl,λb h=>hi.sr.nb b (hnw b h)⟩;rcases get i p hp with⟨rfl,rfl⟩|⟨rfl,rfl⟩|⟨g1,g2,g3⟩;rw[hm'k] at hd;obtain rfl:=inS hd;exact⟨y,xs,rfl,p1,RAs.mono hpre (Fz.refl φ w) _ _ p2,p3,p4⟩;trivial;rw[hoth i g1] at hd;exact(hi.sr.obj i p d g3 hd).congr hpre (Fz.refl φ w) (λ_ _=>⟨rfl,rfl⟩);have src:∀(i:Nat)(p:AO)(d:Cz),((st.set r .dead).set k (.os T kk (vk+ver+1) es))[i]? =some p->p.live=true->m'[i]? =some d->d.has b->∃(i0:Nat)(p0:AO)(d0:Cz),st[i0]? =some p0/\p0.live=true/\m[i0]? =some d0/\d0.has b/\((i=k/\i0=r)\/(i=i0/\i≠k/\i≠r)):=by intro i p d hp l1 hd hb;rcases get i p hp with⟨rfl,rfl⟩|⟨rfl,rfl⟩|⟨g1,g2,g3⟩;rw[hm'k] at hd;obtain rfl:=inS hd;exact⟨r,_,_,hr,rfl,hcr,hb, .inl ⟨rfl,rfl⟩⟩;cases l1;rw[hoth i g1] at hd;exact⟨i,p,d,g3,l1,hd,hb, .inr ⟨rfl,g1,g2⟩⟩
  obtain⟨i0,p0,d0,a1,a2,a3,a4,a5⟩:=src i p d hp l1 hd hb;obtain⟨i1,p1,d1,b1,b2,b3,b4,b5⟩:=src i' p' d' hp' l2 hd' hb';have e:=hi.sr.inj i0 i1 p0 p1 d0 d1 b a1 b1 a2 b2 a3 b3 a4 b4;rcases a5 with⟨a6,a7⟩|⟨a6,a7,a8⟩<;>rcases b5 with⟨b6,b7⟩|⟨b6,b7,b8⟩<;>omega
 have hi2:=hi.go hev hsr;have hval:∀v,RA m φ w (.os r ver) v->RA m' φ w (.os k (vk+ver+1)) v:=by intro v hv;simp only[RA] at hv⊢;obtain⟨v0,y0,q1,q2,q3⟩:=hv;rw[hcr] at q1;simp only[ao,Cz.tok.injEq] at q1;obtain⟨rfl,rfl⟩:=q1;have:=q3 rfl;subst this;exact⟨_,_,hm'k,Nat.le_refl _,λ_=>rfl⟩
 have hcells:∀(cl:List (Nat×Nat))(s:List AO),SR m' φ s w->eR s r ver (.os k (vk+ver+1)) cl->SR m' φ (dh (.os k (vk+ver+1)) cl s) w:=by
  intro cl;induction cl with
  |nil=>intro s h _;exact h
  |cons c cl ih=>obtain⟨i,off⟩:=c;intro s h hc;obtain⟨T',cs,h1,h2,h3⟩:=hc;simp only[dh,h1];refine ih _ ?_ h3;refine h.alter (o:= .row T' cs) h1 rfl ?_;rintro c hc2 ⟨b,rfl,q2,vs,q3,q4⟩;obtain⟨v',p1,p2⟩:=bQ q4 h2;refine⟨b,rfl,q2,vs,q3,iP q4 p1 ?_⟩;simp only[RA] at p2⊢;obtain⟨v0,y0,k1,k2,k3⟩:=p2;rw[hoth r hne',hcr] at k1;simp only[ao,Cz.tok.injEq] at k1;obtain⟨rfl,rfl⟩:=k1;have:=k3 rfl;subst this;exact⟨_,_,hm'k,Nat.le_refl _,λ_=>rfl⟩
 refine⟨m',φ,hcells cl _ hi2.sr hc,hi2.ev,⟨?_,hi2.env.gl⟩,hi2.sz,hi2.df⟩;clear hc;induction ts with
 |nil=>exact hi2.env.get
 |cons t ts ih=>
  intro s x hx;simp only[List.map_cons,List.cons_append] at hx;unfold Env.get at hx;cases hb:Nat.beq s t with
  |true=>rw[hb] at hx;simp only[cdT,ao] at hx;subst hx;have:s=t:=nbE hb;subst this;obtain⟨v,g1,g2⟩:=hi.env s _ ht.1;exact⟨v,g1,hval v g2⟩
  |false=>rw[hb] at hx;exact ih ht.2 s x hx
def uB(k:Nat)(x:Nat->AV)(new:Nat->List AO)(r:AV)(st1:List AO):Prop:=∃i,r=x i/\k<=st1.length/\st1.take k=new i
theorem iI{o:Oper}{d:Nat}{f:FuncId}{c:Call}{x:Operand}{first caps asz as0:List AV}{st0 st0':List AO}{new new':Nat->List AO}{y y':Nat->AV}(js:List Nat)(hop:o.op= .call c)(hx:c.callee= .value x)
  (hf:opv env x=some (.fn (.func f) first caps))(has:c4 env c.args.toList=some asz)(hc:Ctr P f as0 st0 (uB st0.length y new))(hl:Les (first++asz++caps) (AV.rens js as0))
  (hla:AV.lts js.length as0=true)(hj:js.Nodup)(hren0:st0.map (AO.ren js)=st0')(hwin:eK js st st0')(hlt:da js.length st0=true)(hlive:fK st0=true)(hnew:∀i,da js.length (new i)=true)
  (hren:∀i,(new i).map (AO.ren js)=new' i)(hyl:∀i,(y i).lt js.length=true)(hy:∀i,(y i).ren js=y' i)
  (hw:Wt ops env o true)(ho:o.dst=some d)(hd:Nat.ble (d+1) e.n=true)(h:∀i,WL P e ops rest ((d,y' i)::env) (bU js (new' i) st) R):WL P e ops (o::rest) env st R:=λm φ a w hi=>by
 obtain⟨vs,h1,h2⟩:=fb (P:=P) hi.env hop hx hf has hc.1;unfold d5;rw[if_pos (hw _ _ _ _ hi.env)];refine .inl ?_;simp only[Oper.wp,h2,Oper.upon,ho];refine(nW hc hi.sr h1 hl hla hj (by rw[hren0];exact hwin) hlt hlive).mono ?_;rintro en w' ⟨v,r,st1,m1,φ',rfl,⟨i,rfl,q1,q2⟩,hQ,hra⟩;obtain⟨m',hev,hsr,hr⟩:=hQ q1 (by rw[q2];exact hnew i);have:=hr (hyl i);rw[q2,hren i] at hsr;exact h i m' φ' _ w' (hi.ev_put hev hsr (nbT hd) (by rw[<-hy i];exact this))
theorem gb{fn:Func}{φ0 w0 n m0}{x:Nat->AV}{r:AV}{new:Nat->List AO}{k:Nat}(i:Nat)(hr:Res P fn env st r)(hl:Le r (x i))(hk:Nat.ble k st.length=true)(hs:SLe (st.take k) (new i)):WE P ⟨m0,φ0,w0,n,none,none⟩ .ret (.fin fn (uB k x new)) env st:=by
 have hk:=nbT hk;have hwk:SLe st (new i++st.drop k):=by
  have:∀(k:Nat)(st new:List AO),SLe (st.take k) new->SLe st (new++st.drop k):=by
   intro k;induction k with
   |zero=>
    intro st new h;cases new with
    |nil=>exact SLe.refl _
    |cons a l=>exact h.elim
   |succ k ih=>
    intro st new h;cases st with
    |nil=>
     cases new with
     |nil=>exact trivial
     |cons a l=>exact h.elim
    |cons b st=>
     cases new with
     |nil=>exact h.elim
     |cons a l=>exact⟨h.1,ih st l h.2⟩
  exact this k st _ hs
 have hnl:(new i).length=k:=by rw[hs.length,List.length_take];omega
 refine gc hr hl hwk ⟨i,rfl,?_,?_⟩;rw[List.length_append,hnl];omega;rw[<-hnl,List.take_left]
end
end Go.Sk
namespace Go.Sk
open Go.RowKit (Below)
section
variable{P:Program}{env:Env}{st:List AO}{dst:Option Tmp}{ty:TypeId}{pos:String}{after:Array Edge}{guard:Option (Nat×Bool)}
theorem cG{T:TypeId}{x:Operand}{r:AV}{ds:List D}(hx:opv env x=some r)(hk:r.okc=true)(hc:Les r.cells (ds.map .d)):DoesB P env st ⟨dst, .box T x,ty,pos,after,guard⟩ (.d (.pc ds)) st:=λm φ a w hs he=>by
 obtain⟨vs,h1,h2⟩:=bz (bc he hx) hk;have h2':=bO (hc.ras h2);let w':=w.alloc (.cells ⟨vs⟩ T);let φ':Nat->Nat:=λb=>if b=w.heap.size then ds.length else φ b
 have hb:Below w.heap.size w w':=(Below.refl _ _).alloc (Nat.le_refl _) _;have hF:Fz φ w φ' w':=λb off c g1 g2=>by
  have hlt:=bV hs g1;refine⟨?_,by rw[cu (hb.block b hlt)];exact g2⟩;show off<if b=w.heap.size then ds.length else φ b
  rw[if_neg oM];exact g1
 have hk':∀b,b<w.heap.size->w'.heap[b]? =w.heap[b]?/\φ' b=φ b:=λb hlt=>⟨hb.block b hlt,if_neg oM⟩;have hlt:∀b,w'.heap.size<=b->φ' b=0:=λb h=>by
  have h3:w'.heap.size=w.heap.size+1:=by simp[w']
  show(if b=w.heap.size then ds.length else φ b)=0;rw[if_neg oM];exact hs.lt b oM
 refine⟨.pointer (some ⟨w.heap.size,0,none⟩),w',m,φ',by simp[execOp,Instr.box,newVar,newRow,h1,w'],⟨Pre.refl m,λ_ h=> .inl h,hb.os,hb.tape,hb.output,hb.size,λb h _=>hk' b h,hF⟩,hs.of_keep hk' hF hlt,?_,hb⟩;simp only[RA,RD];refine⟨_,0,rfl,dH (RFs.mono hF _ _ h2') λj v hj=>?_⟩;have hjl:j<vs.length:=cF hj;have hvl:=fM h2';refine⟨?_,?_⟩;show 0+j<if w.heap.size=w.heap.size then ds.length else φ w.heap.size
 rw[if_pos rfl];omega;have:w'.heap[w.heap.size]? =some (.cells ⟨vs⟩ T (0,0)):=heap_alloc_new w _;refine ov ?_ (by simp[World.frozen?,this]);unfold World.cell?;simp only[this];simpa using hj
end
theorem Le.fnc{f:Fn}{a b:List AV}{a' b':List D}(h:Les a (a'.map .d))(k:Les b (b'.map .d)):Le (.fn f a b) (.d (.fnc f a' b')):=λ_ _ _ _ hh=>by
 simp only[RA,RD] at hh⊢;obtain⟨fs,cs,h1,h2,h3⟩:=hh;exact⟨fs,cs,h1,bO (h.ras h2),bO (k.ras h3)⟩
theorem fP(f:Fn)(a b:List D):Le (.d (.fnc f a b)) (.fn f (a.map .d) (b.map .d)):=λ_ _ _ _ hh=>by
 simp only[RA,RD] at hh⊢;obtain⟨fs,cs,h1,h2,h3⟩:=hh;exact⟨fs,cs,h1,bY h2,bY h3⟩
theorem Les.app:∀{xs ys us vs:List AV},Les xs ys->Les us vs->Les (xs++us) (ys++vs)
 |[],[],_,_,_,k=>k
 |_x::_xs,_y::_ys,_,_,h,k=>⟨h.1,Les.app h.2 k⟩
 |[],_::_,_,_,h,_=>h.elim
 |_::_,[],_,_,h,_=>h.elim
theorem kd{fi ca:List D}{asz:List AV}{ds:List D}(h:Les asz (ds.map .d)):Les (fi.map .d++asz++ca.map .d) ((fi++ds++ca).map .d):=by rw[List.map_append,List.map_append];exact Les.app (Les.app (Les.refl _) h) (Les.refl _)
section
variable{P:Program}{env:Env}{st:List AO}{dst:Option Tmp}{ty:TypeId}{pos:String}{after:Array Edge}{guard:Option (Nat×Bool)}
end
end Go.Sk
namespace Go.Sk
open Go.RowKit (Below)
def iX(s:ByteArray)(i:Int):Option Int:=if h:0<=i/\i<s.size then some ((s[i.toNat]'oM).toNat:Int) else none
def ra(s:ByteArray)(l h:Int):Option ByteArray:=bif decide (0<=h)&&decide (h<=(s.size:Int))&&decide (0<=l)&&decide (l<=h) then some (s.extract l.toNat h.toNat) else none
section
variable{P:Program}{env:Env}{st:List AO}{dst:Option Tmp}{ty:TypeId}{pos:String}{after:Array Edge}{guard:Option (Nat×Bool)}
theorem cR{T:TypeId}{x ix:Operand}{k:IntKind}{s:ByteArray}{i r:Int}(hT:P.underlying T=some .string)(hx:opv env x=some (.d (.v (.string s))))(hi:opv env ix=some (.d (.v (.int k i))))(h:iX s i=some r):
  Yields P env st ⟨dst, .index T x ix,ty,pos,after,guard⟩ (.d (.v (.int .u8 r))):=λm φ a w _ he=>by
 refine⟨_,RAv,λw' _=>?_⟩;unfold iX at h;split at h;rename_i hc;simp only[ao] at h;subst h;simp only[execOp,aQ he hx,aQ he hi,Sem.run_bind,run_index_string w' T s k i hT,dif_pos hc];simp;cases h
theorem vg{T:TypeId}{x l h:Operand}{k k':IntKind}{s r:ByteArray}{i j:Int}(hT:P.underlying T=some .string)(hx:opv env x=some (.d (.v (.string s))))(hl:opv env l=some (.d (.v (.int k i))))(hh:opv env h=some (.d (.v (.int k' j))))(hr:ra s i j=some r):
  Yields P env st ⟨dst, .slice T x (some l) (some h) none,ty,pos,after,guard⟩ (.d (.v (.string r))):=λm φ a w _ he=>by
 refine⟨_,RAv,λw' _=>?_⟩;unfold ra at hr;cases hc:(decide (0<=j)&&decide (j<=(s.size:Int))&&decide (0<=i)&&decide (i<=j)) with
 |false=>rw[hc] at hr;cases hr
 |true=>rw[hc] at hr;obtain rfl:=inS hr;simp only[Bool.and_eq_true,decide_eq_true_eq] at hc;simp[execOp,aQ he hx,aQ he hl,aQ he hh,Instr.sliceAt,run_underlying hT,run_slice_string_if w' T s k k' i j hT,hc]
theorem tI{T:TypeId}{x l:Operand}{k:IntKind}{s r:ByteArray}{i:Int}(hT:P.underlying T=some .string)(hx:opv env x=some (.d (.v (.string s))))(hl:opv env l=some (.d (.v (.int k i))))(hr:ra s i s.size=some r):
  Yields P env st ⟨dst, .slice T x (some l) none none,ty,pos,after,guard⟩ (.d (.v (.string r))):=λm φ a w _ he=>by
 refine⟨_,RAv,λw' _=>?_⟩;unfold ra at hr;cases hc:(decide (0<=(s.size:Int))&&decide ((s.size:Int)<=(s.size:Int))&&decide (0<=i)&&decide (i<=(s.size:Int))) with
 |false=>rw[hc] at hr;cases hr
 |true=>rw[hc] at hr;obtain rfl:=inS hr;simp only[Bool.and_eq_true,decide_eq_true_eq] at hc;simp[execOp,aQ he hx,aQ he hl,Instr.sliceAt,run_underlying hT,run_slice_string_from_if w' T s k i hT,hc]
end
end Go.Sk
namespace Go.Sk
open Go.RowKit (Below)
open Go.MapKept (IsKey sameNow_of_keys run_getObj_map run_setObj_map run_checkKey run_findKey run_keyThatStays)
section
variable{P:Program}{env:Env}{st:List AO}{dst:Option Tmp}{ty:TypeId}{pos:String}{after:Array Edge}{guard:Option (Nat×Bool)}
variable{κ α:Type}[DecidableEq κ]
theorem kn{T kt et:TypeId}{d:TypeDesc}{x ki:Operand}{id:Nat}(kf:κ->Value)(g:α->AV)(L:List (κ×α)){k:κ}{z:α}{zv:Value}{r:AV}{b:Bool}(hT:P.underlying T=some (.map kt et))(hd:P.underlying kt=some d)(hK:KeyF d kf)
  (hx:opv env x=some (.mp id))(hi:st[id]? =some (mpO kf g L))(hk:opv env ki=some (.d (.v (kf k))))(hz:(P.info? et).bind (·.zero)=some zv)(hgz:g z= .d (.v zv))(hr:g ((ac L k).getD z)=r)(hb:(ac L k).isSome=b):
  Yields P env st ⟨dst, .lookup T x ki true,ty,pos,after,guard⟩ (.tu [r, .d (.v (.bool b))]):=λm φ a w hs he=>by
 subst hr;subst hb;obtain⟨b,h1,h2⟩:=d7 he hx;obtain⟨b',hbb,h0,l,cl,g1,g2,g3,g4⟩:=hs.obj id _ _ hi h1;simp only[Cz.blk.injEq] at hbb;subst hbb;have hkeys:l.map (·.key)=L.map (λp=>kf p.1):=by rw[g2];simp
 have hkv:=aQ he hk;have hlt:=bK g1;have tu:∀{x:AV}{v:Value}{c:Bool},RA m φ w x v->RA m φ w (.tu [x, .d (.v (.bool c))]) (.tuple #[v, .bool c]):=λh=>by
  simp only[RA];exact⟨_,rfl,aC h (aC RAv bB)⟩
 cases hinf:P.info? et with
 |none=>simp[hinf] at hz
 |some i=>
  simp only[hinf,bnS] at hz;rcases dt hK k L l 0 hkeys with⟨q1,q2,_⟩|⟨j,e,y,q1,q2,q3,q4,q5,_⟩
  refine⟨.tuple #[zv, .bool false],by rw[q1,Option.getD_none,hgz];exact tu RAv,λw' hb=>?_⟩;have g1':w'.heap[b]? =some (.map ⟨l⟩ cl):=by rw[hb.block b hlt];exact g1
  simp[execOp,Instr.lookup,h2,hkv,run_underlying hT,MapKept.run_getObj_map g1',run_checkKey hd (hK.key k),run_findKey hd q2,zeroValue,typeInfo,hinf,hz,Result.andThen];have hval:RA m φ w (g y) e.val:=by
   have:(((L.map λp=>(kf p.1,g p.2)).map (·.2)))[j]? =some (g y):=by simp[q2]
   obtain⟨v',hv1,hv2⟩:=bQ g3 this;simp only[List.getElem?_map,q1,Option.map_some,ao] at hv1;rw[hv1];exact hv2
  refine⟨.tuple #[e.val, .bool true],by rw[q3,Option.getD_some];exact tu hval,λw' hb=>?_⟩;have g1':w'.heap[b]? =some (.map ⟨l⟩ cl):=by rw[hb.block b hlt];exact g1
  simp[execOp,Instr.lookup,h2,hkv,run_underlying hT,MapKept.run_getObj_map g1',run_checkKey hd (hK.key k),run_findKey hd q5,Result.andThen]
end
end Go.Sk
namespace Go.Sk
open Go.RowKit (Below)
def AV.okS(st:List AO):AV->Bool
 | .os id ver=>match st[id]? with|some (.os _ _ v _)=>Nat.beq v ver|_=>false
 | .pe id ver _=>match st[id]? with|some (.os _ _ v _)=>Nat.beq v ver|_=>false
 |x=>x.okc
theorem sj{st:List AO}{id ver off T k:Nat}{es:List (List AV)}(hs:st[id]? =some (.os T k ver es)):∀m φ w v,SR m φ st w->RA m φ w (.pe id ver off) v->v.oneCell'=true/\v.cells= #[v]:=λm φ w v hsr h=>by
 simp only[RA] at h;obtain⟨v0,y0,h1,_,h3⟩:=h;obtain⟨y,xs,h4,_⟩:=hsr.obj _ _ _ hs h1;simp only[Cz.tok.injEq] at h4;obtain⟨b,_,_,_,h5⟩:=h3 h4.1.symm;subst h5;exact⟨rfl,rfl⟩
theorem mM{m φ w st}{x:AV}{y:Value}(hs:SR m φ st w)(h:RA m φ w x y)(hk:x.okS st=true):∃vs,y.cells=⟨vs⟩/\RAs m φ w x.cells vs:=by
 cases x with
 |os id ver=>simp only[AV.okS] at hk;split at hk;rename_i T k v es hi;obtain rfl:=nbE hk;exact⟨[y],(bh hi m φ w y hs h).2,aC h bB⟩;cases hk
 |u=>exact bz h hk
 |d z=>exact bz h hk
 |ag ps=>exact bz h hk
 |pt id off=>exact bz h hk
 |sr id off len cap=>exact bz h hk
 |fn f a b=>exact bz h hk
 |mp id=>exact bz h hk
 |tu l=>exact bz h hk
 |pe id ver off=>simp only[AV.okS] at hk;split at hk;rename_i T k v es hi;obtain rfl:=nbE hk;exact⟨[y],(sj hi m φ w y hs h).2,aC h bB⟩;cases hk
 |ow id v off len lo=>exact bz h hk
 |fs es=>exact bz h hk
 |ifc t x=>exact bz h hk
 |osf id j v=>exact bz h hk
 |pem id j v off=>exact bz h hk
 |yl id=>exact bz h hk
 |kv v z=>exact bz h hk
def iB(st:List AO)(place:Nat->Option (Nat×Nat))(cells:List AV):List (Nat×AV)->Option (List AV)
 |[]=>some cells
 |(i,v)::rest=>
  match place i with
  |none=>none
  |some (off,size)=>
   bif Nat.beq v.cells.length size&&Nat.ble (off+v.cells.length) cells.length&&v.okS st then iB st place (cells.take off++(v.cells++cells.drop (off+size))) rest
   else none
theorem k6{m φ w st}(hsr:SR m φ st w){place:Nat->Option (Nat×Nat)}:∀{parts:List (Nat×AV)}{pv:List (Nat×Value)}{cells cs:List AV}{vs:List Value},parts.map (·.1)=pv.map (·.1)->RAs m φ w (parts.map (·.2)) (pv.map (·.2))->
  RAs m φ w cells vs->iB st place cells parts=some cs->∃us,Instr.fill place ⟨vs⟩ pv=some ⟨us⟩/\RAs m φ w cs us
 |[],pv,cells,cs,vs,hi,hv,hc,hf=>by
  simp only[iB,ao] at hf;subst hf;cases pv with
  |nil=>exact⟨vs,rfl,hc⟩
  |cons p pv=>simp at hi
 |(i,x)::parts,[],cells,cs,vs,hi,hv,hc,hf=>by simp at hi
 |(i,x)::parts,(i',v)::pv,cells,cs,vs,hi,hv,hc,hf=>by
  simp only[List.map_cons,List.cons.injEq] at hi;obtain⟨rfl,hi⟩:=hi;simp only[List.map_cons,RAs] at hv;obtain⟨c,cs',he,hx,hv⟩:=hv;simp only[List.cons.injEq] at he;obtain⟨rfl,rfl⟩:=he;unfold iB at hf;split at hf;cases hf;rename_i off size hp;cases hb:(Nat.beq x.cells.length size&&Nat.ble (off+x.cells.length) cells.length&&x.okS st) with
  |false=>rw[hb] at hf;cases hf
  |true=>rw[hb] at hf;simp only[cdT] at hf;simp only[Bool.and_eq_true] at hb;obtain⟨⟨b1,b2⟩,b3⟩:=hb;have b1:=nbE b1;have b2:=nbT b2;obtain⟨us,g1,g2⟩:=mM hsr hx b3;have l1:=aS g2;have l2:=aS hc;obtain⟨us',k1,k2⟩:=k6 hsr hi hv (aH (bT off hc) (aH g2 (cz (off+size) hc))) hf;refine⟨us',?_,k2⟩;rw[jp hp (by rw[g1];simp;omega) (by rw[g1];simp;omega)];rw[g1];simpa using k1
section
variable{P:Program}{env:Env}{st:List AO}{dst:Option Tmp}{ty:TypeId}{pos:String}{after:Array Edge}{guard:Option (Nat×Bool)}
theorem kq{T:TypeId}{parts:Array (Nat×Operand)}{pl:List (Nat×Nat)}{zs:List Value}{xs cs:List AV}(hp:bR P T=some pl)(hz:aY P T=some zs)(hx:c4 env (parts.toList.map (·.2))=some xs)
  (hf:iB st (λi=>pl[i]?) (zs.map λv=> .d (.v v)) (kg parts.toList xs)=some cs):Yields P env st ⟨dst, .build T parts,ty,pos,after,guard⟩ (.ag cs):=λm φ a w hs he=>by
 have h1:=ir he hx;have hl:parts.toList.length=xs.length:=by have:=dZ hx;simpa using this.symm
 obtain⟨e1,e2⟩:=ic (l:=parts.toList) (xs:=xs) hl rfl;obtain⟨us,g1,g2⟩:=k6 hs (m:=m) (φ:=φ) (w:=w) (parts:=kg parts.toList xs) (pv:=parts.toList.map λ(i,x)=>(i,a.eval x)) (by rw[e1];simp[Function.comp_def]) (by rw[e2];exact h1) (dN zs) hf;refine⟨.agg ⟨us⟩,by simp only[RA];exact⟨us,rfl,g2⟩,λw' hb=>?_⟩;obtain⟨z,z1,z2⟩:=dR hz w';unfold bR at hp;split at hp;rename_i fs hu;have hm:=eW (P:=P) (λf:Field=>(Prod.mk f.offset<$>sizeOf f.type:Sem (Nat×Nat))) (λf=>(bn P f.type).map λn=>(f.offset,n)) w' fs.toList pl (λf b _ hb=>by
  cases hsz:bn P f.type with
  |none=>simp[hsz] at hb
  |some n=>simp only[hsz,Option.map_some,ao] at hb;subst hb;simp[ax hsz]) hp
 have hm':(fs.mapM (λf:Field=>(Prod.mk f.offset<$>sizeOf f.type:Sem (Nat×Nat)))).run P w'= .ok pl.toArray w':=by rw[<-Array.toArray_toList (xs:=fs),List.mapM_toArray];simp[hm]
 simp[execOp,Instr.build,z1,run_underlying hu,hm',z2,g1];cases hp
end
end Go.Sk
namespace Go.Sk
open Go.RowKit (Below)
section
variable{P:Program}{env:Env}{st:List AO}{o:Oper}
end
theorem jm{e:En}{env:Env}{st:List AO}:Gh e env st env (st++ [.rsv]):=λm φ a w hi=>by
 have hF:Fz φ w φ w:=Fz.refl _ _;have hnew:∀b,Cz.non.has b->w.heap.size<=b:=λb hb=>hb.elim;exact⟨_,_,hi.go (Ev.push hi.sr hF (λ_ _=>rfl) (Nat.le_refl _) rfl rfl rfl hnew) (SR.push hi.sr hF (λ_ _=>rfl) (Nat.le_refl _) rfl hnew)⟩
theorem oG{P:Program}{env:Env}{st:List AO}{dst:Option Tmp}{ty:TypeId}{pos:String}{after:Array Edge}{guard:Option (Nat×Bool)}{T el k by_:Nat}(hT:cW P T=some (el,k,by_)):NewOs P env st ⟨dst, .buildSlice T 0 #[],ty,pos,after,guard⟩ el k []:=λm φ a w hs he=>by
 obtain⟨i,ht,hi,rfl,rfl⟩:=eC hT;have hso:(sizeOf el).run P w= .ok i.size w:=by simp[sizeOf,typeInfo,hi]
 have hb:Below w.heap.size w (w.alloc (.cells #[] el)):=(Below.refl _ _).alloc (Nat.le_refl _) _;have hF:=Fz.alloc hs (.cells #[] el);have hk:∀b,b<w.heap.size->(w.alloc (.cells #[] el)).heap[b]? =w.heap[b]? :=λb hb=>bx hb;have hnew:∀b,(Cz.tok 0 (.slice (some ⟨w.heap.size,0,none⟩) 0 0)).has b->w.heap.size<=b:=λb hb=>by simp only[Cz.has,Value.ownBlock,ao] at hb;omega
 refine⟨.slice (some ⟨w.heap.size,0,none⟩) 0 0,w.alloc (.cells #[] el),?_,Ev.push hs hF hk sM rfl rfl rfl hnew,SR.push hs hF hk sM ?_ hnew,hb,λb hb=>by simp only[Value.ownBlock,ao] at hb;omega⟩;simp[execOp,Instr.buildSlice,run_underlying ht,hso,Instr.fill,newRow];have:Array.map (λx=>(default:Value)) (Array.range 0)= #[]:=by apply Array.toList_inj.mp;simp
 rw[this];refine⟨_,[],rfl,⟨sM, .inr ⟨w.heap.size,0, #[],rfl,Nat.zero_le _,heap_alloc_new w _,Nat.le_refl _,Nat.zero_le _,sM,sM⟩⟩,by simp[RAs],sM,λb hb=>?_⟩;simp only[Value.ownBlock,ao] at hb;exact hs.lt _ oM
section
variable{P:Program}{e:En}{l:List Oper}{rs:List AV}{base:Env}{sts:List Bool->List AO}{es:List Nat}
end
end Go.Sk
namespace Go.Sk
open Go.RowKit (Below)
theorem e8{α:Type}{k:Nat}:∀(l:List (List α))(n:Nat),(∀e∈l,e.length=k)->(l.drop n).flatten=l.flatten.drop (n*k)
 |[],n,_=>sM
 |e::l,0,_=>sM
 |e::l,n+1,hl=>by
  have he:=hl e sM;have ih:=e8 l n (λe he=>hl e (by simp[he]));have h1:e.drop ((n+1)*k)=[]:=List.drop_of_length_le (by rw[he,Nat.succ_mul];omega);have h2:(n+1)*k - k=n*k:=by rw[Nat.succ_mul];omega
  rw[List.drop_succ_cons,List.flatten_cons,ih,List.drop_append,he,h1,List.nil_append,h2]
theorem dk{α:Type}{k:Nat}:∀(l:List (List α))(n:Nat),(∀e∈l,e.length=k)->(l.take n).flatten=l.flatten.take (n*k)
 |[],n,_=>sM
 |e::l,0,_=>sM
 |e::l,n+1,hl=>by
  have he:=hl e sM;have ih:=dk l n (λe he=>hl e (by simp[he]));have h1:e.take ((n+1)*k)=e:=List.take_of_length_le (by rw[he,Nat.succ_mul];omega);have h2:(n+1)*k - k=n*k:=by rw[Nat.succ_mul];omega
  rw[List.take_succ_cons,List.flatten_cons,List.flatten_cons,ih,List.take_append,he,h1,h2]
theorem WL.st{P:Program}{e:En}{ops:Array Oper}{rest:List Oper}{env:Env}{st st':List AO}{R:Env->List AO->Prop}(hs:st=st')(h:WL P e ops rest env st' R):WL P e ops rest env st R:=hs▸h
structure SlV where
 a:Option Addr
 n:Nat
 c:Nat
abbrev SlV.v(x:SlV):Value:= .slice x.a x.n x.c
def Piece(st:List AO)(x:AV)(id ver off len lo:Nat):Prop:=
 x= .ow id ver off len lo\/(x= .os id ver/\off=0/\lo=0/\∃T k es,st[id]? =some (.os T k ver es)/\len=es.length)
theorem Piece.ow{st:List AO}{id ver off len lo:Nat}:Piece st (.ow id ver off len lo) id ver off len lo:= .inl rfl
theorem Piece.os{st:List AO}{id ver len T k:Nat}{es:List (List AV)}(h:st[id]? =some (.os T k ver es))(hl:es.length=len):Piece st (.os id ver) id ver 0 len 0:= .inr ⟨rfl,rfl,rfl,T,k,es,h,hl.symm⟩
section
variable{P:Program}{env:Env}{st:List AO}{dst:Option Tmp}{ty:TypeId}{pos:String}{after:Array Edge}{guard:Option (Nat×Bool)}
theorem je{m φ w}{x:AV}{v:Value}{id ver off len lo:Nat}{T k:Nat}{es:List (List AV)}(hs:SR m φ st w)(hx:Piece st x id ver off len lo)(h:RA m φ w x v)(hi:st[id]? =some (.os T k ver es)):
  ∃y xs,m[id]? =some (.tok ver y)/\w.ownsRow 0 T k y es.length xs/\RAs m φ w es.flatten xs/\(∀e∈es,e.length=k)/\(∀b,y.ownBlock=some b->φ b=0)/\
   ((y= .slice none 0 0/\v= .slice none 0 0/\len=0)\/∃b n cap off',y= .slice (some ⟨b,0,none⟩) n cap/\v= .slice (some ⟨b,off',none⟩) len (cap - lo)/\(off'=off\/len=0)):=by
 rcases hx with rfl|⟨rfl,rfl,rfl,T',k',es',hi',rfl⟩
 simp only[RA] at h;obtain⟨v0,y0,g1,g2,g3⟩:=h;obtain⟨y,xs,e1,r1,r2,r3,r4⟩:=hs.obj id _ _ hi g1;simp only[Cz.tok.injEq] at e1;obtain⟨rfl,rfl⟩:=e1;exact⟨y0,xs,g1,r1,r2,r3,r4,g3 rfl⟩;rw[hi] at hi';simp only[ao,AO.os.injEq,true_and] at hi';obtain⟨rfl,rfl,rfl⟩:=hi';simp only[RA] at h;obtain⟨v0,y0,g1,g2,g3⟩:=h;obtain⟨y,xs,e1,r1,r2,r3,r4⟩:=hs.obj id _ _ hi g1;simp only[Cz.tok.injEq] at e1;obtain⟨rfl,rfl⟩:=e1;have:=g3 rfl;subst this;refine⟨v,xs,g1,r1,r2,r3,r4,?_⟩;rcases r1.2 with⟨rfl,h0⟩|⟨g,cap,cur,rfl,_⟩
 exact .inl ⟨rfl,rfl,h0⟩;exact .inr ⟨g,_,cap,0,rfl,rfl, .inl rfl⟩
theorem pw{T n:Nat}{bb:Bool}{x:Operand}{lo hi:Option Operand}{xr:AV}{id ver off len lo0 T':Nat}{es:List (List AV)}{l h:Int}(hT:aP P T=some (n,bb))(hx:opv env x=some xr)(hp:Piece st xr id ver off len lo0)(hi':st[id]? =some (.os T' n ver es))
  (hlo:BndI env lo 0 l)(hhi:BndI env hi len h)(h0:0<=l)(h1:l<=h)(h2:h<=len)(hfit:lo0+len<=es.length):
  Yields P env st ⟨dst, .slice T x lo hi none,ty,pos,after,guard⟩ (.ow id ver (off+l.toNat*n) (h.toNat - l.toNat) (lo0+l.toNat)):=λm φ a w hsr he=>by
 have hl:=hlo.bnd h0;have hh:Bnd env hi len h.toNat:=hhi.bnd oM;obtain⟨t,g1,g2,_⟩:=c9 hT;obtain⟨y,xs,p1,p2,p3,p4,p5,p6⟩:=je hsr hp (bc he hx) hi';rcases p6 with⟨rfl,q2,rfl⟩|⟨b,nn,cap,off',rfl,q2,q3⟩
 have e1:l=0:=oM;have e2:h=0:=oM;subst e1;subst e2;refine⟨.slice none 0 0,by rw[RA];exact⟨_,_,p1,Nat.le_refl _,λ_=> .inl ⟨rfl,rfl,rfl⟩⟩,λw' _=>?_⟩;have:=bH (P:=P) he hl hh (Nat.le_refl _) (Nat.le_refl 0) w';simp_all [execOp,Instr.sliceAt,run_underlying g1,Instr.slice,ax g2];have hcap:es.length<=cap:=by
  rcases p2.2 with⟨hv,_⟩|⟨g,cap',cur,hv,_,_,r3,_⟩
  cases hv;simp only[Value.slice.injEq] at hv;omega
 by_cases hcl:cap - lo0=l.toNat
 refine⟨.slice (some ⟨b,off',none⟩) (h.toNat - l.toNat) (cap - lo0 - l.toNat),by simp only[RA];exact⟨_,_,p1,Nat.le_refl _,λ_=> .inr ⟨b,nn,cap,off',rfl,by rw[Nat.sub_sub], .inr oM⟩⟩,λw' _=>?_⟩;have:=bH (P:=P) (len:=len) (cap:=cap - lo0) he hl hh oM oM w';rw[hcl] at this⊢;simp[execOp,Instr.sliceAt,run_underlying g1,Instr.slice,q2,hcl,this,ax g2];refine⟨.slice (some ⟨b,off'+l.toNat*n,none⟩) (h.toNat - l.toNat) (cap - lo0 - l.toNat),by
  simp only[RA];refine⟨_,_,p1,Nat.le_refl _,λ_=> .inr ⟨b,nn,cap,_,rfl,by rw[Nat.sub_sub],?_⟩⟩;rcases q3 with rfl|q3
  exact .inl rfl;exact .inr oM,λw' _=>?_⟩
 have:=bH (P:=P) (len:=len) (cap:=cap - lo0) he hl hh oM oM w';simp[execOp,Instr.sliceAt,run_underlying g1,Instr.slice,q2,this,ax g2,hcl,Addr.add]
theorem Src.ow{id ver off len lo T k:Nat}{es:List (List AV)}(hi:st[id]? =some (.os T k ver es))(hoff:off=lo*k)(hfit:lo+len<=es.length):Src st (.ow id ver off len lo) k ((es.drop lo).take len):=λm φ w v hs h=>by
 subst hoff;obtain⟨y,xs,p1,p2,p3,p4,p5,p6⟩:=je hs Piece.ow h hi;have hlen:((es.drop lo).take len).length=len:=by simp;omega
 have hd:∀e∈es.drop lo,e.length=k:=λe he=>p4 e (List.mem_of_mem_drop he);refine⟨(xs.drop (lo*k)).take (len*k),?_,?_,?_⟩;rw[dk _ _ hd,e8 _ _ p4];exact bT _ (cz _ p3);rw[hlen];have:=aS p3;have hx:xs.length=es.length*k:=p2.1;rw[List.length_take,List.length_drop,hx,<-Nat.sub_mul];exact Nat.min_eq_left (Nat.mul_le_mul_right k oM);rw[hlen];rcases p6 with⟨_,h2,h3⟩|⟨b,n,cap,off',rfl,h2,h3⟩
 exact .inl ⟨h2,h3⟩;refine .inr ⟨_,_,h2,λj u hj=>?_⟩;have hjl:j<len*k:=by have:=(giS.1 hj).1;rw[List.length_take] at this;omega
 rw[List.getElem?_take,if_pos hjl,List.getElem?_drop] at hj;rcases h3 with rfl|rfl
 have:=ec p2 hj;rw[cJ];exact this;omega
theorem re{k:Nat}(w:World)(dT sT ty elem:TypeId)(g o dLen dCap:Nat)(a:Addr)(sLen sCap:Nat)(cur:Array Value)(t:TypeId)(cs:List Value)
  (hu:P.underlying dT=some (.slice elem))(hs:bn P elem=some k)
  (hg:w.heap[g]? =some (.cells cur t (0,0)))(hn:cs.length=Nat.min sLen dLen*k)
  (hsrc:∀j v,cs[j]? =some v->w.cell? (a.add j)=some v)(hfit:o+cs.length<=cur.size)(h1:∀v∈cs,v.oneCell'=true):
  (Builtin.copy_ #[dT,sT] ty #[.slice (some ⟨g,o,none⟩) dLen dCap, .slice (some a) sLen sCap]).run P w=
   .ok (goInt (Nat.min sLen dLen)) (w.setRow g (cur.toList.take o++cs++cur.toList.drop (o+cs.length)).toArray):=by
 have hl:=run_loadCells_list (P:=P) w a cs hsrc;have hst:=run_storeCells_at P g o t cs 0 cur w hg (by simpa using hfit) h1;simp[Builtin.copy_,run_underlying hu,Builtin.lenOf,Builtin.firstCells,ax hs,<-hn,hl,hst]
theorem mQ{α:Type}{xs rest:List α}{n:Nat}(h:xs.length=n):(xs++rest).take n=xs:=by subst h;simp
theorem vZ{T e k by_:Nat}{d s:Operand}{dr xr:AV}{id ver off len lo n:Nat}{es fs:List (List AV)}{c:Call}(hT:cW P T=some (e,k,by_))(hk:0<k)
  (hc:c=⟨.builtin .copy, #[d,s], #[T,T]⟩)(hd:opv env d=some dr)(hp:Piece st dr id ver off len lo)(hoff:off=lo*k)(hi:st[id]? =some (.os e k ver es))(hx:opv env s=some xr)(hsrc:Src st xr k fs)
  (hf1:fs.flatten.all AV.ok1=true)(hfk:∀f∈fs,f.length=k)(hfit:lo+len<=es.length)(hn:Nat.min fs.length len=n):
  Does P env st ⟨dst, .call c,ty,pos,after,guard⟩ (.d (.v (.int .i64 n))) (st.set id (.os e k ver (es.take lo++(fs.take n++es.drop (lo+n))))):=λm φ a w hs he=>by
 subst hoff;subst hn;subst hc;obtain⟨i,ht,hi',rfl,rfl⟩:=eC hT;have hso:bn P e=some i.size:=by simp[bn,hi']
 obtain⟨y,xs,p1,p2,p3,p4,p5,p6⟩:=je hs hp (bc he hd) hi;obtain⟨news,n1,n2,n3⟩:=hsrc m φ w _ hs (bc he hx);have idl:=(giS.1 hi).1;by_cases hn0:Nat.min fs.length len=0;have e1:es.take lo++(fs.take (Nat.min fs.length len)++es.drop (lo+Nat.min fs.length len))=es:=by rw[hn0];simp
 rw[e1,hn0];have e2:st.set id (.os e i.size ver es)=st:=by obtain⟨hl,hg⟩:=giS.1 hi;rw[<-hg,List.set_getElem_self]
 rw[e2];refine⟨.int .i64 0,w,m,φ, .inl ?_,Ev.refl _ _ _,hs,RAv⟩;have hmn:∀c,Nat.min c len=0\/c≠fs.length:=λc=>by
  by_cases h:c=fs.length;subst h;exact .inl hn0;exact .inr h
 rcases p6 with⟨_,q2,rfl⟩|⟨b,nn,cap,off',_,q2,_⟩<;>rcases n3 with⟨q3,q4⟩|⟨aa,cc,q3,_⟩
 simp[execOp,resolve,invoke,builtin,Builtin.copy_,run_underlying ht,q2,q3,Builtin.lenOf,Builtin.firstCells,ax hso,goInt];simp[execOp,resolve,invoke,builtin,Builtin.copy_,run_underlying ht,q2,q3,Builtin.lenOf,Builtin.firstCells,ax hso,goInt,loadCells,loadCellsFrom];simp[execOp,resolve,invoke,builtin,Builtin.copy_,run_underlying ht,q2,q3,Builtin.lenOf,Builtin.firstCells,ax hso,goInt,storeCells];have h0:Nat.min fs.length len=0:=hn0;simp[execOp,resolve,invoke,builtin,Builtin.copy_,run_underlying ht,q2,q3,Builtin.lenOf,Builtin.firstCells,ax hso,goInt,storeCells,h0,loadCells,loadCellsFrom];have hf0:0<fs.length:=by
  rcases Nat.eq_zero_or_pos fs.length with h|h
  rw[h] at hn0;simp at hn0;exact h
 have hl0:0<len:=by
  rcases Nat.eq_zero_or_pos len with h|h
  rw[h] at hn0;simp at hn0;exact h
 have hnf:Nat.min fs.length len<=fs.length:=Nat.min_le_left _ _;have hnl:Nat.min fs.length len<=len:=Nat.min_le_right _ _;generalize hnn:Nat.min fs.length len=n at*
 rcases p6 with⟨_,_,h⟩|⟨b,nn,cap,off',rfl,q2,q3⟩
 omega;have q3:off'=lo*i.size:=by
  rcases q3 with h|h
  exact h;omega
 subst q3;rcases n3 with⟨_,h⟩|⟨aa,cc,q3,q4⟩
 omega;obtain⟨hxl,r2⟩:=p2;rcases r2 with⟨hv,_⟩|⟨g,cap',cur,hv,_,r3,r4,r5,r6,r7⟩
 cases hv;simp only[Value.slice.injEq,ao,Addr.mk.injEq,and_true] at hv;obtain⟨rfl,rfl,rfl⟩:=hv;have hcl:xs.length<=cur.toList.length:=by
  have hcz:cur.toList.length=cap*i.size:=by rw[Array.length_toList];exact r6
  rw[hxl,hcz];exact Nat.mul_le_mul_right _ r4
 have hcur:cur.toList=xs++cur.toList.drop (es.length*i.size):=by conv=>lhs;rw[<-List.take_append_drop (es.length*i.size) cur.toList,r7]
 generalize cur.toList.drop (es.length*i.size)=rest at hcur;have hnk:n*i.size<=news.length:=by rw[n2];exact Nat.mul_le_mul_right _ hnf
 have hlok:lo*i.size+n*i.size<=xs.length:=by rw[hxl,<-Nat.add_mul];exact Nat.mul_le_mul_right _ oM
 have hcs:(news.take (n*i.size)).length=n*i.size:=by rw[List.length_take];omega
 have hvs:(xs.take (lo*i.size)++(news.take (n*i.size)++xs.drop ((lo+n)*i.size))).length=es.length*i.size:=by rw[List.length_append,List.length_append,hcs,List.length_take,List.length_drop,hxl,Nat.add_mul];rw[hxl] at hlok;omega
 have hnew:cur.toList.take (lo*i.size)++news.take (n*i.size)++cur.toList.drop (lo*i.size+(news.take (n*i.size)).length)=(xs.take (lo*i.size)++(news.take (n*i.size)++xs.drop ((lo+n)*i.size)))++rest:=by rw[hcs,hcur,List.take_append_of_le_length oM,List.drop_append_of_le_length oM,Nat.add_mul];simp
 have hok1:∀v∈news.take (n*i.size),v.oneCell'=true:=λv hv=>iQ n1 hf1 v (List.mem_of_mem_take hv);have hrun:=re (P:=P) (k:=i.size) w T T ty e b (lo*i.size) len (cap - lo) aa fs.length cc cur e (news.take (n*i.size)) ht hso r3 (by rw[hcs,hnn]) (λj v hj=>by
   rw[List.getElem?_take] at hj;split at hj;exact q4 j v hj;cases hj) (by rw[hcs];have:cur.size=cur.toList.length:=(Array.length_toList).symm;omega) hok1
 rw[hnew] at hrun;obtain⟨k1,k2⟩:=pL (es':=es.take lo++(fs.take n++es.drop (lo+n))) (vs:=xs.take (lo*i.size)++(news.take (n*i.size)++xs.drop ((lo+n)*i.size))) hs hi p1 (by
   rw[List.flatten_append,List.flatten_append,dk _ _ p4,dk _ _ hfk,e8 _ _ p4];exact aH (bT _ p3) (aH (bT _ n1) (cz _ p3))) (by simp;omega) (λf hf=>by
   rcases List.mem_append.1 hf with h|h
   exact p4 f (List.mem_of_mem_take h);rcases List.mem_append.1 h with h|h
   exact hfk f (List.mem_of_mem_take h);exact p4 f (List.mem_of_mem_drop h)) cur r3 ((xs.take (lo*i.size)++(news.take (n*i.size)++xs.drop ((lo+n)*i.size)))++rest).toArray (by
   have:cur.size=cur.toList.length:=(Array.length_toList).symm;rw[this,hcur,List.size_toArray];simp only[List.length_append (bs:=rest)];rw[hvs,hxl]) (by simpa using mQ hvs)
 refine⟨_,_,m,φ, .inl ?_,k1,k2,RAv⟩;simp only[execOp,resolve,invoke,builtin];simp[hrun,hnn,goInt,q2,q3]
def mz{α:Type}(L:List α)(lo len:Nat)(L2:List α):List α:=L.take lo++(L2.take (Nat.min L2.length len)++L.drop (lo+Nat.min L2.length len))
def gA{α:Type}(L:List α)(lo len:Nat):Bool:=Nat.ble (lo+len) L.length
theorem oz{α:Type}(L:List α):gA L 0 L.length=true:=by simp[gA]
theorem sA{α β:Type}(f:α->β)(L:List α)(lo len:Nat)(L2:List α):(mz L lo len L2).map f=(L.map f).take lo++((L2.map f).take (Nat.min (L2.map f).length len)++(L.map f).drop (lo+Nat.min (L2.map f).length len)):=by simp[mz,List.map_take,List.map_drop]
theorem qE{T e k by_:Nat}{d s:Operand}{dr xr:AV}{id ver off len lo:Nat}{α:Type}{R:α->List D}(L L2:List α){c:Call}(hT:cW P T=some (e,k,by_))(hk:0<k)
  (hc:c=⟨.builtin .copy, #[d,s], #[T,T]⟩)(hd:opv env d=some dr)(hp:Piece st dr id ver off len lo)(hoff:off=lo*k)(hi:st[id]? =some (.os e k ver (L.map (aJ R))))(hx:opv env s=some xr)(hsrc:Src st xr k (L2.map (aJ R)))
  (hf1:∀x,(aJ R x).all AV.ok1=true)(hR:∀x,(R x).length=k)(hg:gA L lo len=true):
  Does P env st ⟨dst, .call c,ty,pos,after,guard⟩ (.d (.v (.int .i64 ((Nat.min L2.length len:Nat):Int)))) (st.set id (.os e k ver ((mz L lo len L2).map (aJ R)))):=by
 have:=vZ (by_:=by_) (dst:=dst) (ty:=ty) (pos:=pos) (after:=after) (guard:=guard) hT hk hc hd hp hoff hi hx hsrc (pa hf1) (λf hf=>by
  obtain⟨x,_,rfl⟩:=List.mem_map.1 hf;simp[aJ,hR]) (by simpa using nbT hg) rfl
 rw[<-sA] at this;simpa using this
theorem kj{T n:Nat}{bb:Bool}{x:Operand}{lo hi:Option Operand}{id ver T':Nat}{α:Type}{R:α->List D}(L:List α){l h:Int}(hT:aP P T=some (n,bb))(hx:opv env x=some (.os id ver))(hi':st[id]? =some (.os T' n ver (L.map (aJ R))))
  (hlo:BndI env lo 0 l)(hhi:BndI env hi L.length h)(hg:cm L l h=true):
  Yields P env st ⟨dst, .slice T x lo hi none,ty,pos,after,guard⟩ (.ow id ver (l.toNat*n) (h.toNat - l.toNat) l.toNat):=by
 simp only[cm,Bool.and_eq_true,decide_eq_true_eq] at hg;have:=pw (dst:=dst) (ty:=ty) (pos:=pos) (after:=after) (guard:=guard) hT hx (Piece.os hi' (len:=L.length) sM) hi' hlo hhi hg.1.1 hg.1.2 hg.2 sM;simpa using this
theorem uD{α:Type}{R:α->List D}{L:List α}{id ver off len lo T k:Nat}(hi:st[id]? =some (.os T k ver (L.map (aJ R))))(hoff:off=lo*k)(hg:gA L lo len=true):Src st (.ow id ver off len lo) k (((L.drop lo).take len).map (aJ R)):=by have:=Src.ow hi hoff (len:=len) (by simpa using nbT hg);simpa[List.map_take,List.map_drop] using this
theorem y_com{x:Operand}{T:TypeId}{k:IntKind}{p c:Int}(hx:opv env x=some (.d (.v (.int k p))))(hw:k.wrap (BitVec.ofInt k.bits (if k.signed then -1 else k.max)^^^BitVec.ofInt k.bits p).toNat=c):Yields P env st ⟨dst, .unOp .xor T x,ty,pos,after,guard⟩ (.d (.v (.int k c))):=λm φ a w _ he=>by
 subst hw;exact⟨_,RAv,λw' _=>by simp[execOp,aQ he hx,Op.unary,Op.intBits]⟩
theorem qb{T n:Nat}{bb:Bool}{x ix:Operand}{α:Type}{E:α->D}(tab:List α){kk:IntKind}{i:Int}{z:α}(hT:eD P T=some (n,1,bb))(hx:opv env x=some (.d (.pc (tab.map E))))(hi:opv env ix=some (.d (.v (.int kk i))))(hl:tab.length=n)(h:idx tab i=some z):
  Yields P env st ⟨dst, .indexAddr T x ix,ty,pos,after,guard⟩ (.d (.pc [E z])):=λm φ a w hs he=>by
 obtain⟨v,h1,h2⟩:=gM (dst:=dst) (ty:=ty) (pos:=pos) (after:=after) (guard:=guard) hT hx hi (az h) (by rw[<-hl];exact cQ h) m φ a w hs he;refine⟨v,?_,h2⟩;simp only[RA,RD] at h1⊢;obtain⟨b,off,g1,g2⟩:=h1;refine⟨b,off,g1,?_⟩;have hz:=dp h;have hd:(tab.map E).drop (i.toNat*1)=E z::(tab.map E).drop (i.toNat+1):=by
  rw[Nat.mul_one];have hlt:i.toNat<(tab.map E).length:=by simpa using (giS.1 hz).1
  rw[List.drop_eq_getElem_cons hlt];congr 1;have:=(giS.1 hz).2;simp[this]
 rw[hd] at g2;simp only[RPs] at g2⊢;exact⟨g2.1,trivial⟩
end
end Go.Sk
namespace Go.Sk
open Go.RowKit (Below)
def AV.ok1S(st:List AO):AV->Bool
 | .os id ver=>match st[id]? with|some (.os _ _ v _)=>Nat.beq v ver|_=>false
 | .pe id ver _=>match st[id]? with|some (.os _ _ v _)=>Nat.beq v ver|_=>false
 |x=>x.ok1
theorem pq{m φ w st}(hs:SR m φ st w):∀{xs:List AV}{vs:List Value},RAs m φ w xs vs->xs.all (AV.ok1S st)=true->∀v∈vs,v.oneCell'=true
 |[],vs,h,_,v,hv=>by simp only[RAs] at h;subst h;simp at hv
 |x::xs,vs,h,hk,v,hv=>by
  simp only[RAs] at h;obtain⟨c,cs,rfl,h2,h3⟩:=h;simp only[List.all_cons,Bool.and_eq_true] at hk;rcases List.mem_cons.1 hv with rfl|hv
  have key:∀y:AV,RA m φ w y v->y.ok1S st=true->v.oneCell'=true:=λy hy hky=>by
   cases y with
   |os id ver=>simp only[AV.ok1S] at hky;split at hky;rename_i T k v' es hi;obtain rfl:=nbE hky;exact(bh hi m φ w v hs hy).1;cases hky
   |pe id ver off=>simp only[AV.ok1S] at hky;split at hky;rename_i T k v' es hi;obtain rfl:=nbE hky;exact(sj hi m φ w v hs hy).1;cases hky
   |_=>exact p8 hy hky
  exact key x h2 hk.1;exact pq hs h3 hk.2 v hv
section
variable{P:Program}{env:Env}{st:List AO}{dst:Option Tmp}{ty:TypeId}{pos:String}{after:Array Edge}{guard:Option (Nat×Bool)}
theorem k8{T:TypeId}{x y:Operand}{id off n:Nat}{T':TypeId}{cs:List AV}{r:AV}{rs:List AV}(hx:opv env x=some (.pt id off))(hs:st[id]? =some (.row T' cs))(hy:opv env y=some r)(hk:r.okS st=true)(hc:r.cells=rs)(hk1:rs.all (AV.ok1S st)=true)
  (hn:bn P T=some n)(hl:rs.length=n)(hlen:Nat.ble (off+n) cs.length=true):
  Does P env st ⟨dst, .store T x y,ty,pos,after,guard⟩ (.d (.v undef)) (st.set id (.row T' (cs.take off++rs++cs.drop (off+n)))):=λm φ a w hsr he=>by
 obtain⟨b,h1,h2⟩:=eZ he hx;obtain⟨b',hbb,_,vs,h3,h4⟩:=hsr.obj id _ _ hs h1;simp only[Cz.blk.injEq] at hbb;subst hbb;obtain⟨us,g1,g2⟩:=mM hsr (bc he hy) hk;rw[hc] at g2;have hul:=aS g2;have hvl:=aS h4;have hle:=nbT hlen;have hst:=run_storeCells_at P b off T' us 0 ⟨vs⟩ w h3 (by simp;omega) (pq hsr g2 hk1);simp only[Nat.add_zero,hul,hl] at hst;have hnew:RAs m φ w (cs.take off++rs++cs.drop (off+n)) (vs.take off++us++vs.drop (off+n)):=aH (aH (bT off h4) g2) (cz _ h4);obtain⟨k1,k2⟩:=mS hsr hs h1 hnew;refine⟨undef,_,m,φ, .inr ⟨?_,rfl⟩,k1,k2,RAv⟩;have hsize:us.length=n:=oM;simp[execOp,Instr.storeAt,Instr.sureAddr,h2,storeVar,g1,ax hn,hsize,hst]
end
section
variable{P:Program}{e:En}{ops:Array Oper}{rest:List Oper}{env:Env}{st:List AO}{R:Env->List AO->Prop}{ty:TypeId}{pos:String}{after:Array Edge}{d:Nat}{op:Op}{r:AV}{x:Operand}{k:Ko}
theorem WL.qn(hy:Yields P env st ⟨some d,op,ty,pos,after,none⟩ r)(hd:Nat.ble (d+1) e.n=true)(h:WL P e ops rest ((d,r)::env) st R):WL P e ops (⟨some d,op,ty,pos,after,none⟩::rest) env st R:=WL.q hy (Wt.none rfl) rfl hd h
theorem WL.ns{y:Code}(h:WC P e y k env st):WL P e ops [] env st (λenv' st'=>WE P e .normal (.seq y k) env' st'):=WL.nil (rM h)
theorem WL.qy{j t:Nat}{b:Bool}(hy:Yields P env st ⟨some d,op,ty,pos,after,some (j,b)⟩ r)(hj:(ops[j]?).bind (·.dst)=some t)(hx:env.get t=some (.d (.v (.bool b))))(hd:Nat.ble (d+1) e.n=true)(h:WL P e ops rest ((d,r)::env) st R):WL P e ops (⟨some d,op,ty,pos,after,some (j,b)⟩::rest) env st R:=WL.q hy (Wt.yes rfl hj hx) rfl hd h
theorem WQ.qn{n:Nat}{RQ:Env->Prop}(hy:Yields P env st ⟨some d,op,ty,pos,after,none⟩ r)(hd:Nat.ble (d+1) n=true)(h:WQ P n ops rest ((d,r)::env) st RQ):WQ P n ops (⟨some d,op,ty,pos,after,none⟩::rest) env st RQ:=WQ.q (fL hy) (Wt.none rfl) rfl hd h
theorem WQ.qy{n j t:Nat}{b:Bool}{RQ:Env->Prop}(hy:Yields P env st ⟨some d,op,ty,pos,after,some (j,b)⟩ r)(hj:(ops[j]?).bind (·.dst)=some t)(hx:env.get t=some (.d (.v (.bool b))))(hd:Nat.ble (d+1) n=true)(h:WQ P n ops rest ((d,r)::env) st RQ):WQ P n ops (⟨some d,op,ty,pos,after,some (j,b)⟩::rest) env st RQ:=WQ.q (fL hy) (Wt.yes rfl hj hx) rfl hd h
end
end Go.Sk
namespace Go.Sk
section
variable{e:En}{env:Env}{st:List AO}
theorem rm(t T k:Nat)(ht:env.get t=some (.d (.v (.slice none 0 0)))):Gh e env st ((t, .os st.length 0)::env) (st++ [.os T k 0 []]):=λ_m φ _a _w hi=>
 let ⟨m',hi'⟩:=hi.nil_os (T:=T) (k:=k) ht
 ⟨m',φ,hi'⟩
theorem ek{α:Type}{l:List α}{i:Int}{x:α}(h:idx l i=some x):i.toNat<l.length:=(giS.1 (dp h)).1
theorem jM{α:Type}{E:α->List D}{L0:List (List α)}{x':List α}{j:Nat}(oid fid nid:Nat){To vo T k ver v:Nat}(ho:st[oid]? =some (.os To 1 vo ((cy fid ver L0.length).set j [.os nid v])))(hf:st[fid]? =some (.fam T k ver (d8 E (L0.set j []))))(hn:st[nid]? =some (.os T k v (x'.map (aJ E))))(hne:Nat.beq oid fid=false)(hne2:Nat.beq oid nid=false)(hj:j<L0.length):
  Gh e env st env (((st.set fid (.fam T k (ver+1) (d8 E (L0.set j x')))).set nid .dead).set oid (.os To 1 vo (cy fid (ver+1) (L0.set j x').length))):=
 pW (_x:=[]) oid fid nid (L0.set j x') (by rw[List.length_set];exact ho) hf hn hne hne2 (by simpa using hj) (by rw[List.set_set])
theorem oN{n fid ver:Nat}(h:Nat.ble (fid+1) n=true):∀l:List Nat,AV.lts n ((l.map λi=> [AV.osf fid i ver]).flatten)=true
 |[]=>rfl
 |i::l=>by
  simp only[List.map_cons,List.flatten_cons,List.cons_append,List.nil_append,AV.lts,AV.lt,h,oN h l,Bool.and_self]
theorem vP(n T k v fid ver m:Nat)(h:Nat.ble (fid+1) n=true):AO.lt n (.os T k v (cy fid ver m))=true:=oN h _
theorem sB{α:Type}(n T k v:Nat)(E:α->List D):∀L:List (List α),AO.lt n (.fam T k v (d8 E L))=true
 |[]=>rfl
 |l::L=>by
  have h1:=qv n T k v E l;have h2:=sB n T k v E L;simp only[AO.lt,d8,List.map_cons,List.flatten_cons,List.flatten_append,vN,Bool.and_eq_true] at*
  exact⟨h1,h2⟩
end
end Go.Sk
namespace Go.Sk
open Go.RowKit (Below)
def Rd(e:En)(id:Nat):Prop:=∃l,e.rd=some l/\e.m[id]? =some (.blk l)
theorem oQ:∀(ps:List Nat)(vals:List Value)(tm:Array Value),ps.Nodup->(∀p∈ps,p<tm.size)->
  ((List.zip ps vals).foldl (λtmps (x:Nat×Value)=>tmps.setIfInBounds x.1 x.2) tm).size=tm.size/\
  (∀(i p:Nat)(v:Value),ps[i]? =some p->vals[i]? =some v->((List.zip ps vals).foldl (λtmps (x:Nat×Value)=>tmps.setIfInBounds x.1 x.2) tm)[p]? =some v)/\
  (∀t,t∉ps->((List.zip ps vals).foldl (λtmps (x:Nat×Value)=>tmps.setIfInBounds x.1 x.2) tm)[t]? =tm[t]?)
 |[],vals,tm,_,_=>sM
 |p::ps,[],tm,_,_=>sM
 |p::ps,v::vals,tm,hn,hlt=>by
  obtain⟨n1,n2⟩:=List.nodup_cons.1 hn;simp only[List.zip_cons_cons,List.foldl_cons];obtain⟨h1,h2,h3⟩:=oQ ps vals (tm.setIfInBounds p v) n2 (λq hq=>by simpa using hlt q (List.mem_cons_of_mem _ hq));refine⟨by rw[h1];simp,λi q u hi hv=>?_,λt ht=>?_⟩;cases i with
  |zero=>simp only[List.getElem?_cons_zero,ao] at hi hv;subst hi;subst hv;rw[h3 _ n1];simp[hlt p List.mem_cons_self]
  |succ i=>exact h2 i q u (by simpa using hi) (by simpa using hv)
  have h4:t≠p:=λh=>ht (by rw[h];exact List.mem_cons_self);rw[h3 t (λh=>ht (List.mem_cons_of_mem _ h)),Array.getElem?_setIfInBounds_ne (Ne.symm h4)]
theorem mN:∀{ts:List Nat}{vs:List AV}{t:Nat}{x:AV},Env.get (List.zip ts vs) t=some x->∃i:Nat,ts[i]? =some t/\vs[i]? =some x
 |[],vs,t,x,h=>by simp[Env.get] at h
 |k::ts,[],t,x,h=>by simp[Env.get] at h
 |k::ts,v::vs,t,x,h=>by
  simp only[List.zip_cons_cons] at h;rw[aX] at h;split at h;rename_i ht;simp only[ao] at h;subst h;subst ht;exact⟨0,sM,sM⟩;obtain⟨i,h1,h2⟩:=mN h;exact⟨i+1,by simpa using h1,by simpa using h2⟩
theorem get_append{a b:Env}{t:Nat}:Env.get (a++b) t=match Env.get a t with|some x=>some x|none=>Env.get b t:=by
 induction a with
 |nil=>simp[Env.get]
 |cons p a ih=>obtain⟨k,v⟩:=p;rw[List.cons_append,aX,aX];split;rfl;exact ih
theorem nJ:∀{ts:List Nat}{vs:List AV}{t:Nat},ts.length=vs.length->Env.get (List.zip ts vs) t=none->t∉ts
 |[],vs,t,_,_=>sM
 |k::ts,[],t,hl,h=>by simp at hl
 |k::ts,v::vs,t,hl,h=>by
  simp only[List.zip_cons_cons] at h;rw[aX] at h;split at h;cases h;rename_i hk;have:=nJ (by simpa using hl) h;simp[hk,this]
theorem rZ{α:Type}{m:List α}{i:Nat}{c:α}(h:m[i]? =some c):m.set i c=m:=by apply List.ext_getElem?;intro j;by_cases hj:j=i;subst hj;rw[List.getElem?_set_self (giS.1 h).1,h];rw[List.getElem?_set_ne (Ne.symm hj)]
theorem pM{m:List Cz}{φ:Nat->Nat}{st:List AO}{w:World}{id l:Nat}{o:AO}{r r':Loop}(hs:SR m φ st w)(hi:st[id]? =some o)(hl:o.live=true)(hc:m[id]? =some (.blk l))(hh:w.heap[l]? =some (.loop r)){o':AO}(hlv:o'.live=true\/(∀b,(Cz.blk l).has b->(Cz.blk l).has b))
  (ho:∀w',w'.heap[l]? =some (.loop r')->Fz φ w φ w'->OR m φ w' o' (.blk l)):
  Ev m φ w m φ (w.putObj l (.loop r'))/\SR m φ (st.set id o') (w.putObj l (.loop r')):=by
 have hlt:=bK hh;have hF:Fz φ w φ (w.putObj l (.loop r')):=λb off c h1 h2=>by
  refine⟨h1,?_⟩;have hb:b≠l:=λh=>by subst h;have h2:=ip h2;simp[World.cell?,hh] at h2
  rw[cu (c3 hb)];exact h2
 have hm:=rZ hc;have:=dQ (m:=m) (φ:=φ) (φ':=φ) (st:=st) (w:=w) (w':=w.putObj l (.loop r')) (o':=o') (c':= .blk l) hs hi hl hc (Cz.le_refl _) rfl rfl rfl sM (λb _ hb=>⟨c3 λh=>hb h.symm,rfl⟩) hF (λb hb=>hs.lt b (by simpa using hb)) (λb h=> .inl h)
  (by rw[hm];exact ho _ (World.putObj_heap_same hlt) hF) hlv
 rwa [hm] at this
section
variable{P:Program}{e:En}{ops:Array Oper}{rest:List Oper}{o:Oper}{env:Env}{st:List AO}{R:Env->List AO->Prop}{d:Nat}{k:Ko}
theorem l7{m φ w a}{c:Call}{x:Operand}{id l:Nat}{asz:List AV}{r:Loop}(h:EnvOk m φ w env a)(hop:o.op= .call c)(hx:c.callee= .value x)(hf:opv env x=some (.yl id))(has:c4 env c.args.toList=some asz)
  (hm:m[id]? =some (.blk l))(hh:w.heap[l]? =some (.loop r))(hp:asz.length=r.params.size):
  ∃vs,RAs m φ w asz vs/\(execOp a.eval o).run P w= .ok (.round l r.fn ((r.params.zip ⟨vs⟩).foldl (λtmps (t,a)=>tmps.setIfInBounds t a) r.tmps) r.assign r.body) w:=by
 have hv:=bc h hf;simp only[RA] at hv;obtain⟨b,h1,h2⟩:=hv;rw[hm] at h1;simp only[ao,Cz.blk.injEq] at h1;subst h1;have h4:=gC h has;refine⟨c.args.toList.map a.eval,h4,?_⟩;have e1:(#[]++c.args.map a.eval:Array Value)=⟨c.args.toList.map a.eval⟩:=by apply Array.toList_inj.mp;simp
 have hl:=aS h4;simp only[execOp,hop,resolve,hx,h2,Deferred.ofValue,Sem.run_bind,Sem.run_pure,Result.andThen_ok,invoke,e1];exact run_yield hh (by simpa[hl] using hp)
theorem rA{c:Call}{x:Operand}{id:Nat}{asz:List AV}{s:LpS}{vs:List AV}{pd:Option Code}(Q:AV->List AO->Prop)(hop:o.op= .call c)(hx:c.callee= .value x)(hf:opv env x=some (.yl id))(has:c4 env c.args.toList=some asz)
  (hs:st[id]? =some (.lp s vs .ready pd))(hp:Nat.beq asz.length s.ps.length=true)(hps:hO s.ps=true)(hpn:(s.ps.all λp=>Nat.blt p s.n)=true)(_hts:Nat.beq s.ts.length vs.length=true)
  (hr:∀e':En,e'.n=s.n->Rd e' id->e'.m.length=st.length->WC P e' s.asg (.asg s.body (.rend Q)) (List.zip s.ps asz++List.zip s.ts vs) st)
  (hw:Wt ops env o true)(ho:o.dst=some d)(hd:Nat.ble (d+1) e.n=true)(h:∀r st',Q r st'->WL P e ops rest ((d,r)::env) st' R):WL P e ops (o::rest) env st R:=λm φ a w hi=>by
 have hidl:=(giS.1 hs).1;obtain⟨c0,hc0⟩:∃c,m[id]? =some c:=⟨_,geG (by rw[hi.sr.len];exact hidl)⟩;obtain⟨b,rfl,h0,r,us,g1,⟨g2,g3,g4,g5,g6,g7,g8⟩,g9⟩:=hi.sr.obj id _ c0 hs hc0;have hp':=nbE hp;obtain⟨vals,k1,k2⟩:=l7 (P:=P) hi.env hop hx hf has hc0 g1 (by rw[hp',g3];simp);unfold d5;rw[if_pos (hw _ _ _ _ hi.env)];refine .inr ⟨b,r.fn,_,r.assign,r.body,w,k2,?_⟩;have hvl:=aS k1;have hz:(r.params.zip (⟨vals⟩:Array Value)).foldl (λtmps (t,a)=>tmps.setIfInBounds t a) r.tmps=(List.zip s.ps vals).foldl (λtmps (x:Nat×Value)=>tmps.setIfInBounds x.1 x.2) r.tmps:=by rw[<-Array.foldl_toList,Array.toList_zip,g3]
 obtain⟨f1,f2,f3⟩:=oQ s.ps vals r.tmps (eI hps) (λp hp=>by
  have:=List.all_eq_true.1 hpn p hp;rw[g2];simpa[Nat.blt_eq] using this)
 rw[hz];let e':En:=⟨m,φ,w,s.n,some b,none⟩;have hinv:Inv e' m φ (List.zip s.ps asz++List.zip s.ts vs) st { tmps:=(List.zip s.ps vals).foldl (λtmps (x:Nat×Value)=>tmps.setIfInBounds x.1 x.2) r.tmps,defers:=[] } w:=by
  refine⟨hi.sr,Ev.refl m φ w,⟨λt y hy=>?_,hi.sr.gl⟩,by rw[f1];exact g2,trivial⟩;rw[get_append] at hy;cases hz:Env.get (List.zip s.ps asz) t with
  |some z=>rw[hz] at hy;simp only[ao] at hy;subst hy;obtain⟨i,q1,q2⟩:=mN hz;obtain⟨v,q3,q4⟩:=bQ k1 q2;exact⟨v,f2 i t v q1 q3,q4⟩
  |none=>rw[hz] at hy;have hnt:=nJ (by rw[hp']) hz;obtain⟨i,q1,q2⟩:=mN hy;obtain⟨v,q3,q4⟩:=bQ g9 q2;exact⟨v,by rw[f3 t hnt];exact g8 i t v q1 q3,q4⟩
 have hwc:=hr e' rfl ⟨b,rfl,hc0⟩ hi.sr.len m φ _ w hinv;have hround:RoundIn Fence.wide 0 P b r.fn ((List.zip s.ps vals).foldl (λtmps (x:Nat×Value)=>tmps.setIfInBounds x.1 x.2) r.tmps) r.assign r.body w (c8 e' Q):=by refine roundIn_of_wpIn trivial ?_;rw[g4,g5];exact hwc
 refine hround.mono ?_;rintro en w'' ⟨v,r',st',m',φ',rfl,hQ,hev,hsr,hra⟩;refine⟨v,rfl,?_⟩;rw[ho];exact h r' st' hQ m' φ' _ w'' (hi.ev_put hev hsr (nbT hd) hra)
theorem fw{body:Code}{id:Nat}{s:LpS}{vs:List AV}{pd:Option Code}(hrd:Rd e id)(hs:st[id]? =some (.lp s vs .ready pd))(h:WC P e body k env (st.set id (.lp s vs .busy pd))):WE P e .normal (.asg body k) env st:=λm φ a w hi=>by
 obtain⟨l,h1,h2⟩:=hrd;have hc:=hi.ev.pre.blk h2;obtain⟨b,hb,h0,r,us,g1,g2,g3⟩:=hi.sr.obj id _ _ hs hc;simp only[Cz.blk.injEq] at hb;subst hb;obtain⟨q1,q2⟩:=pM (r':={ r with state:= .busy }) (o':= .lp s vs .busy pd) hi.sr hs rfl hc g1 (.inl rfl) (λw' e1 hF=>⟨l,rfl,h0,_,us,e1,⟨g2.1,g2.2.1,g2.2.2.1,g2.2.2.2.1,rfl,g2.2.2.2.2.2.1,g2.2.2.2.2.2.2⟩,RAs.mono (Pre.refl m) hF _ _ g3⟩);have:=h m φ a _ (hi.go q1 q2);have hst:r.state= .ready:=g2.2.2.2.2.1;show(match e.rd with|some l=>∃w₂,(Instr.beginRound l).run P w= .ok () w₂/\body.wpIn (EF e.rd) 0 P (k.den P e) a w₂|none=>False);rw[h1];exact⟨_,run_beginRound g1 hst,by rw[h1] at this;exact this⟩
theorem oq{Q:AV->List AO->Prop}{id:Nat}{s:LpS}{vs:List AV}{pd:Option Code}(jump:Option Code)(hrd:Rd e id)(hs:st[id]? =some (.lp s vs .busy pd))
  (hQ:Q (.d (.v (.bool jump.isNone))) (st.set id (.lp s vs (if jump.isNone then .ready else .done) jump))){m φ a w}(hi:Inv e m φ env st a w):
  ∃l,e.rd=some l/\∃v w',(Instr.endRound l jump).run P w= .ok v w'/\c8 e Q (.returned v) w':=by
 obtain⟨l,h1,h2⟩:=hrd;have hc:=hi.ev.pre.blk h2;obtain⟨b,hb,h0,r,us,g1,g2,g3⟩:=hi.sr.obj id _ _ hs hc;simp only[Cz.blk.injEq] at hb;subst hb;obtain⟨q1,q2⟩:=pM (r':={ r with state:=if jump.isNone then .ready else .done,pending:=jump }) (o':= .lp s vs (if jump.isNone then .ready else .done) jump) hi.sr hs rfl hc g1 (.inl rfl) (λw' e1 hF=>⟨l,rfl,h0,_,us,e1,⟨g2.1,g2.2.1,g2.2.2.1,g2.2.2.2.1,rfl,rfl,g2.2.2.2.2.2.2⟩,RAs.mono (Pre.refl m) hF _ _ g3⟩);exact⟨l,h1,_,_,run_endRound jump g1,_,_,_,m,φ,rfl,hQ,hi.ev.trans q1,q2,by simp[RA,RD]⟩
theorem cZ{Q:AV->List AO->Prop}{id:Nat}{s:LpS}{vs:List AV}{pd:Option Code}(hrd:Rd e id)(hs:st[id]? =some (.lp s vs .busy pd))
  (hQ:Q (.d (.v (.bool true))) (st.set id (.lp s vs .ready none))):WE P e .normal (.rend Q) env st:=λm φ a w hi=>by
 obtain⟨l,h1,h2⟩:=oq (P:=P) none hrd hs hQ hi;show(match e.rd with|some l=>roundPost P l (c8 e Q)|none=>λ_ _ _=>False) .normal a w;rw[h1];exact h2
theorem dw{Q:AV->List AO->Prop}{id:Nat}{s:LpS}{vs:List AV}{pd:Option Code}(hrd:Rd e id)(hs:st[id]? =some (.lp s vs .busy pd))
  (hQ:Q (.d (.v (.bool false))) (st.set id (.lp s vs .done (some .ret)))):WE P e .ret (.rend Q) env st:=λm φ a w hi=>by
 obtain⟨l,h1,h2⟩:=oq (P:=P) (some .ret) hrd hs hQ hi;show(match e.rd with|some l=>roundPost P l (c8 e Q)|none=>λ_ _ _=>False) .ret a w;rw[h1];exact h2
def pm(P:Program)(e:En)(k:Ko)(env:Env)(id:Nat)(st':List AO):Prop:=
 ∃st2 s vs stt pend,SLe st' st2/\st2[id]? =some (.lp s vs stt pend)/\stt≠ .busy/\
  match pend with
  |none=>WE P e .normal k env (st2.set id .dead)
  |some .ret=>WE P e .ret k env (st2.set id .dead)
  |some (.exit i)=>WE P e (.exit i) k env (st2.set id .dead)
  |_=>False
theorem n8{m φ w}{a:Act}(he:EnvOk m φ w env a):∀{ts:List Nat}{vs:List AV},c4 env (ts.map .tmp)=some vs->∃us,RAs m φ w vs us/\∀(i t:Nat)(u:Value),ts[i]? =some t->us[i]? =some u->a.tmps[t]? =some u
 |[],vs,h=>by simp only[List.map_nil,c4,ao] at h;subst h;exact⟨[],bB,λi t u h=>by simp at h⟩
 |t::ts,vs,h=>by
  simp only[List.map_cons,c4] at h;split at h;rename_i y ys h1 h2;simp only[ao] at h;subst h;obtain⟨us,g1,g2⟩:=n8 he h2;obtain⟨v,q1,q2⟩:=he.get t y h1;refine⟨v::us,aC q2 g1,λi t' u hi hu=>?_⟩;cases i with
  |zero=>simp only[List.getElem?_cons_zero,ao] at hi hu;subst hi;subst hu;exact q1
  |succ i=>exact g2 i t' u (by simpa using hi) (by simpa using hu)
  cases h
theorem l8{m φ w a}{f:FuncId}{g:Operand}{first caps:List AV}{l:Nat}(h:EnvOk m φ w env a)(hf:opv env g=some (.fn (.func f) first caps))(hc:eU P f):
  ∃fs cs,RAs m φ w first fs/\RAs m φ w caps cs/\∃d:Deferred,(∀w',(resolve a.eval (rangeCall g l) 0).run P w'= .ok d w')/\∀w',(invoke d.target d.args).run P w'= .ok (.enter f ⟨fs++ .func (.yield l) #[] #[]::cs⟩) w':=by
 have hv:=bc h hf;simp only[RA] at hv;obtain⟨fs,cs,h1,h2,h3⟩:=hv;obtain⟨fn,g1,g2,g3⟩:=hc;refine⟨fs,cs,h2,h3,⟨.fn (.func f) ⟨cs⟩,⟨fs⟩++ #[.func (.yield l) #[] #[]]⟩,λw'=>?_,λw'=>?_⟩;have e0:(a.eval (.const (.func (.yield l) #[] #[])))= .func (.yield l) #[] #[]:=rfl;simp only[resolve,h1,Deferred.ofValue,Sem.run_pure,List.map_toArray,List.map_cons,List.map_nil,e0];have e1:(⟨fs⟩++ #[.func (.yield l) #[] #[]]++⟨cs⟩:Array Value)=⟨fs++ .func (.yield l) #[] #[]::cs⟩:=by apply Array.toList_inj.mp;simp
 simp only[invoke,callFunc,Sem.run_bind,run_program,g1,g2,Bool.false_eq_true,ite_false,g3,Sem.run_pure,Result.andThen_ok,e1]
theorem qZ{g:Operand}{ps:Array Tmp}{asg body:Code}{f:FuncId}{first caps:List AV}(ts:List Nat){vs:List AV}(Q:AV->List AO->Prop)(hrd:e.rd=none)(hg:opv env g=some (.fn (.func f) first caps))(hts:c4 env (ts.map .tmp)=some vs)
  (hc:Ctr P f (first++ .yl st.length::caps) (st++ [.lp ⟨e.n,ts,ps.toList,asg,body⟩ vs .ready none]) Q)
  (h:∀r st',Q r st'->pm P e k env st.length st')(hnd:e.ds=none):WC P e (.rangeFunc g ps asg body) k env st:=λm φ a w hi=>by
 refine wpIn_rangeFunc λfn _=>?_;obtain⟨fs,cs,h1,h2,d,h3,h4⟩:=l8 (P:=P) (l:=w.heap.size+1) hi.env hg hc.1;rw[hrd];refine⟨_,_,_,d,_,f,_,_,run_enterLoop_outer fn a.tmps ps asg body,h3 _,λ_ _=>trivial,h4 _,λhx=>by simp[EF] at hx,hZ.2 ?_⟩;obtain⟨us,u1,u2⟩:=n8 hi.env hts;let L:Loop:={ state:= .ready,pending:=none,fn,tmps:=a.tmps,params:=ps,assign:=asg,body,defers:=w.heap.size };let w1:World:=(w.alloc (.deferred (some []))).alloc (.loop L);have hs1:(w.alloc (.deferred (some []))).heap.size=w.heap.size+1:=World.size_alloc _ _;have hsz1:w1.heap.size=w.heap.size+2:=by show((w.alloc _).alloc _).heap.size=_;rw[World.size_alloc,hs1]
 have hk1:∀b,b<w.heap.size->w1.heap[b]? =w.heap[b]? :=λb hb=>by
  show((w.alloc _).alloc _).heap[b]? =_;rw[bx (by rw[hs1];omega),bx hb]
 have hl1:w1.heap[w.heap.size+1]? =some (.loop L):=by have:=World.alloc_heap_new (w.alloc (.deferred (some []))) (.loop L);rwa [hs1] at this
 have hd1:w1.heap[w.heap.size]? =some (.deferred (some [])):=by show((w.alloc _).alloc _).heap[w.heap.size]? =_;rw[bx (by rw[hs1];omega)];exact World.alloc_heap_new w _
 have hF1:Fz φ w φ w1:=λb off c q1 q2=>⟨q1,by rw[cu (hk1 b (bV hi.sr q1))];exact q2⟩;let m1:=m++ [Cz.blk (w.heap.size+1)];have hpre:Pre m m1:=Pre.append m _;have hml:m.length=st.length:=hi.sr.len;have hsr1:SR m1 φ (st++ [.lp ⟨e.n,ts,ps.toList,asg,body⟩ vs .ready none]) w1:=
  hi.sr.push hF1 hk1 oM ⟨_,rfl,hi.sr.lt _ oM,L,us,hl1,⟨hi.sz,by simp[L],rfl,rfl,rfl,rfl,u2⟩,RAs.mono hpre hF1 _ _ u1⟩ (λb hb=>by simp only[Cz.has] at hb;omega)
 have hev1:Ev m φ w m1 φ w1:=by refine⟨hpre,?_,rfl,rfl,rfl,oM,λb hb _=>⟨hk1 b hb,rfl⟩,hF1⟩;rintro b ⟨i,c,q1,q2⟩;rw[cN] at q1;split at q1;exact .inl ⟨i,c,q1,q2⟩;split at q1;simp only[ao] at q1;subst q1;simp only[Cz.has] at q2;exact .inr oM;cases q1
 have hra:RAs m1 φ w1 (first++ .yl st.length::caps) (fs++ .func (.yield (w.heap.size+1)) #[] #[]::cs):=by refine aH (RAs.mono hpre hF1 _ _ h1) (aC ?_ (RAs.mono hpre hF1 _ _ h2));simp only[RA];exact⟨_,by rw[<-hml];simp[m1],rfl⟩
 refine(hc.2 m1 φ w1 _ hsr1 hra).mono ?_;rintro en w' ⟨v,r,st',m',φ',rfl,hQ,hev,hsr,_⟩;obtain⟨st2,s,vs2,stt,pend,e1,e2,e3,e4⟩:=h r st' hQ;have hsr2:=hsr.weak e1;have hm1:m1[st.length]? =some (.blk (w.heap.size+1)):=by rw[<-hml];simp[m1]
 have hcm:=hev.pre.blk hm1;obtain⟨b,hb,p0,r2,us2,p1,p2,p3⟩:=hsr2.obj st.length _ _ e2 hcm;simp only[Cz.blk.injEq] at hb;subst hb;obtain⟨q1,q2⟩:=pM (r':={ r2 with state:= .exhausted }) (o':= .dead) hsr2 e2 rfl hcm p1 (.inr λ_ h=>h) (λw' _ _=>trivial);have hst:r2.state=stt:=p2.2.2.2.2.1;have hpd:r2.pending=pend:=p2.2.2.2.2.2.1;refine⟨_,_,run_endLoop p1 (by rw[hst];exact e3),?_⟩;have hmk:Marks e.w.heap.size m w a.defers:=by have:=hi.df;rw[hnd] at this;exact this
 have hmark:Marks e.w.heap.size m1 w1 ({ target:= .collected w.heap.size,args:= #[] }::a.defers):=by
  refine⟨⟨w.heap.size,rfl,hd1,?_,hi.ev.size,?_⟩,hmk.ev hev1⟩;rintro⟨i,c,q1,q2⟩;rw[cN] at q1;split at q1;exact absurd (hi.sr.nb _ ⟨i,c,q1,q2⟩) (Nat.lt_irrefl _);split at q1;simp only[ao] at q1;subst q1;simp only[Cz.has] at q2;omega;cases q1;have:∀(ds:List Deferred),Marks e.w.heap.size m w ds->∀d'∈ds,d'.target≠ .collected w.heap.size:=by
   intro ds;induction ds with
   |nil=>intro _ d' hd';cases hd'
   |cons d0 ds ih=>
    rintro⟨⟨r0,t1,t2,_⟩,hds⟩ d' hd';rcases List.mem_cons.1 hd' with rfl|hd'
    rw[t1];intro hh;simp only[Target.collected.injEq] at hh;have:=bK t2;omega;exact ih hds d' hd'
  exact this _ hmk
 have hinv:Inv e m' φ' env (st2.set st.length .dead) { a with defers:=[{ target:= .collected w.heap.size,args:= #[] }]++a.defers } (w'.putObj (w.heap.size+1) (.loop { r2 with state:= .exhausted })):=by refine⟨q2,((hi.ev.trans hev1).trans hev).trans q1,?_,hi.sz,(by rw[hnd];exact(hmark.ev hev).ev q1)⟩;have h5:=((hi.env.mono hpre hF1).mono hev.pre hev.fz).mono q1.pre q1.fz;exact⟨h5.get,h5.gl⟩
 generalize hw4:(w'.putObj (w.heap.size+1) (.loop { r2 with state:= .exhausted }))=w4 at hinv⊢;rw[hpd];cases pend with
 |none=>exact e4 m' φ' _ _ hinv
 |some c=>
  cases c with
  |ret=>exact wpIn_ret (e4 m' φ' _ _ hinv)
  |exit i=>exact wpIn_exit (e4 m' φ' _ _ hinv)
  |_=>exact e4.elim
theorem WL.weak{l:List Oper}{st':List AO}(h:SLe st st')(hc:WL P e ops l env st' R):WL P e ops l env st R:=λm φ a w hi=>hc m φ a w (hi.weak h)
theorem ig{g:Operand}{ps:Array Tmp}{asg body:Code}{f:FuncId}{first caps us:List AV}(ts:List Nat){vs:List AV}(id:Nat)(Q:LpS->AV->List AO->Prop)(hrd:e.rd=none)(hg:opv env g=some (.fn (.func f) first caps))(hts:c4 env (ts.map .tmp)=some vs)(hid:Nat.beq st.length id=true)(has:first++ .yl id::caps=us)
  (hc:∀s,s=LpS.mk e.n ts ps.toList asg body->Ctr P f us (st++ [.lp s vs .ready none]) (Q s))
  (h:∀s r st',Q s r st'->pm P e k env id st')(hnd:e.ds=none:=by rfl):WC P e (.rangeFunc g ps asg body) k env st:=by
 obtain rfl:=nbE hid;subst has;exact qZ ts (Q _) hrd hg hts (hc _ rfl) (h _) hnd
theorem WL.yield{c:Call}{x:Operand}{id n:Nat}{asz:List AV}{s:LpS}{vs:List AV}{pd:Option Code}{ts ps:List Nat}{asg body:Code}{env0:Env}(Q:AV->List AO->Prop)(hsd:s=⟨n,ts,ps,asg,body⟩)(hop:o.op= .call c)(hx:c.callee= .value x)(hf:opv env x=some (.yl id))(has:c4 env c.args.toList=some asz)
  (hs:st[id]? =some (.lp s vs .ready pd))(hp:(Nat.beq asz.length ps.length&&hO ps&&(ps.all λp=>Nat.blt p n)&&Nat.beq ts.length vs.length)=true)(he:List.zip ps asz++List.zip ts vs=env0)
  (hr:∀e':En,e'.n=n->Rd e' id->e'.m.length=st.length->WC P e' asg (.asg body (.rend Q)) env0 st)
  (hw:Wt ops env o true)(ho:o.dst=some d)(hd:Nat.ble (d+1) e.n=true)(h:∀r st',Q r st'->WL P e ops rest ((d,r)::env) st' R):WL P e ops (o::rest) env st R:=by
 subst hsd;subst he;simp only[Bool.and_eq_true] at hp;exact rA Q hop hx hf has hs hp.1.1.1 hp.1.1.2 hp.1.2 hp.2 hr hw ho hd h
theorem WL.inl{f:FuncId}{c:Call}{x:Operand}{first caps asz us:List AV}(Q:AV->List AO->Prop)(hop:o.op= .call c)(hx:c.callee= .value x)
  (hf:opv env x=some (.fn (.func f) first caps))(has:c4 env c.args.toList=some asz)(he:first++asz++caps=us)(hc:Ctr P f us st Q)
  (hw:Wt ops env o true)(ho:o.dst=some d)(hd:Nat.ble (d+1) e.n=true)(h:∀r st',Q r st'->WL P e ops rest ((d,r)::env) st' R):WL P e ops (o::rest) env st R:=by
 subst he;exact WL.call hop hx hf has hc (Les.refl _) hw ho hd h
end
end Go.Sk
namespace Go.Sk
open Go.RowKit (Below)
def pJ(n:Nat)(f:Nat->D):List D:=(List.range n).map f
def vq(n:Nat)(f:Nat->AV):List AV:=(List.range n).map f
def jE(n:Nat)(i:Int):Bool:=decide (0<=i)&&Nat.blt i.toNat n
theorem fx{n:Nat}{i:Int}(h:jE n i=true):0<=i/\i.toNat<n:=by simpa[jE] using h
theorem tR{n:Nat}{i:Int}(h:jE n i=true):0<=i:=(fx h).1
theorem tQ{n:Nat}{i:Int}(h:jE n i=true):i<n:=by have:=fx h;omega
theorem rR(n:Nat)(f:Nat->D):(pJ n f).map AV.d=vq n (λj=> .d (f j)):=by simp[pJ,vq,List.map_map,Function.comp_def]
theorem rS{n:Nat}{ps:List D}{f:Nat->D}{i:Int}(h:ps=pJ n f)(hg:jE n i=true):ps[i.toNat*1]? =some (f i.toNat):=by subst h;have:=(fx hg).2;simp[pJ,this]
section
variable{P:Program}{e:En}{ops:Array Oper}{env:Env}{st:List AO}{R:Env->List AO->Prop}{dst:Option Tmp}{ty:TypeId}{pos:String}{after:Array Edge}{guard:Option (Nat×Bool)}
theorem uE{φ w}:∀{xs:List D}{b off i:Nat}{x:D},RPs φ w xs b off->xs[i]? =some x->RPs φ w [x] b (off+i):=λh hx=>by
 obtain⟨h1,v,h2,h3⟩:=pZ h hx;simp only[RPs];exact⟨⟨h1,v,h2,h3⟩,trivial⟩
theorem gN{T len:Nat}{bb:Bool}{x ix:Operand}{ps:List D}(f:Nat->D){kk:IntKind}{i:Int}(hT:eD P T=some (len,1,bb))(hx:opv env x=some (.d (.pc ps)))(hi:opv env ix=some (.d (.v (.int kk i))))
  (h:ps.take len=pJ len f)(hg:jE len i=true):Yields P env st ⟨dst, .indexAddr T x ix,ty,pos,after,guard⟩ (.d (.pc [f i.toNat])):=λm φ a w _ he=>by
 obtain⟨b,off,h2,h3⟩:=gf he hx;have h4:=rS h hg;have h5:=(fx hg).2;rw[List.getElem?_take,if_pos oM,Nat.mul_one] at h4;refine⟨_,by simp only[RA,RD];exact⟨b,_,rfl,uE h3 h4⟩,λw' _=>?_⟩;have:=d6 (P:=P) (kk:=kk) (b:=b) (off:=off) hT (tR hg) (tQ hg) w';rw[Nat.mul_one] at this;simp[execOp,h2,aQ he hi,this]
theorem gt{φ w}:∀{ps:List D}{b off:Nat},RPs φ w ps b off->REs φ w (ps.map λd=> [d]) 1 b off
 |[],_,_,_=>by simp[REs]
 |p::ps,b,off,h=>by
  simp only[RPs] at h;simp only[List.map_cons,REs,RPs];exact⟨⟨h.1,trivial⟩,gt h.2⟩
theorem iK{φ w}:∀{ps:List D}{b off:Nat}(n:Nat),RPs φ w ps b off->RPs φ w (ps.take n) b off
 |[],_,_,_,_=>by simp[RPs]
 |p::ps,b,off,0,h=>by simp[RPs]
 |p::ps,b,off,n+1,h=>by
  simp only[RPs] at h;simp only[List.take_succ_cons,RPs];exact⟨h.1,iK n h.2⟩
theorem px{T len:Nat}{bb:Bool}{x:Operand}{ps:List D}(hT:eD P T=some (len,1,bb))(hx:opv env x=some (.d (.pc ps)))(hl:Nat.ble len ps.length=true):
  Yields P env st ⟨dst, .slice T x none none none,ty,pos,after,guard⟩ (.d (.sl ((ps.take len).map λd=> [d]))):=λm φ a w _ he=>by
 obtain⟨b,off,h2,h3⟩:=gf he hx;obtain⟨t,g1,g2,g3⟩:=fJ hT;have hl:=nbT hl;refine⟨.slice (some ⟨b,off,none⟩) len len,?_,λw' _=>?_⟩;simp only[RA,RD];refine .inr ⟨b,off,1,len,by simp;omega,by simp;omega,λe he=>?_,gt (iK len h3)⟩;obtain⟨d,_,rfl⟩:=List.mem_map.1 he;rfl;by_cases h0:len=0;subst h0;simp[execOp,Instr.sliceAt,run_underlying g1,Instr.slice,h2,Instr.sliceBounds,Instr.sureAddr,ax g2,Addr.add];simp[execOp,Instr.sliceAt,run_underlying g1,Instr.slice,h2,Instr.sliceBounds,Instr.sureAddr,ax g2,Addr.add]
end
end Go.Sk
namespace Go.Sk
open Go.RowKit (Below)
section
variable{P:Program}{env:Env}{st:List AO}{dst:Option Tmp}{ty:TypeId}{pos:String}{after:Array Edge}{guard:Option (Nat×Bool)}
end
end Go.Sk
namespace Go.Sk
open Go.RowKit (Below)
end Go.Sk
namespace Go.Sk
open Go.RowKit (Below)
section
variable{P:Program}{env:Env}{st:List AO}{dst:Option Tmp}{ty:TypeId}{pos:String}{after:Array Edge}{guard:Option (Nat×Bool)}
end
end Go.Sk
namespace Go.Sk
open Go.RowKit (Below)
open Go.MapKept (run_getObj_map run_setObj_map)
structure KeyS(P:Program){κ:Type}[DecidableEq κ](kt:TypeId)(kf:κ->Value):Prop where
 wide:(match P.underlying kt with|some (.array _ _)|some (.struct _)=>true|_=>false)=true
 chk:∀em k w,(Instr.checkKey em 10000 kt (kf k)).run P w= .ok () w
 eq:∀a b w,(Op.equal kt (kf a) (kf b)).run P w= .ok (decide (a=b)) w
 same:∀a,Instr.sameBits 10000 (kf a) (kf a)=true
section
variable{κ α:Type}[DecidableEq κ]{P:Program}{kt:TypeId}{kf:κ->Value}
theorem dV(hK:KeyS P kt kf)(k:κ):∀(L:List (κ×α))(l:List MapEntry)(i:Nat),l.map (·.key)=L.map (λp=>kf p.1)->
  (ac L k=none/\(∀w:World,(Instr.findAsking kt (kf k) l i).run P w= .ok none w)/\∀v,ai L k v=L++ [(k,v)])\/
  ∃j e x,l[j]? =some e/\L[j]? =some (k,x)/\ac L k=some x/\e.key=kf k/\(∀w:World,(Instr.findAsking kt (kf k) l i).run P w= .ok (some (i+j,e.val)) w)/\∀v,ai L k v=L.set j (k,v)
 |[],[],i,_=> .inl ⟨rfl,by simp[Instr.findAsking],λ_=>rfl⟩
 |p::L,e::l,i,h=>by
  simp only[List.map_cons,List.cons.injEq] at h;have hr:=λw=>hK.eq k p.1 w;rw[<-h.1] at hr;by_cases hp:p.1=k;refine .inr ⟨0,e,p.2,rfl,by simp[<-hp],by simp[ac,hp],by rw[h.1,hp],?_,λv=>by simp[ai,hp]⟩;simp[Instr.findAsking,hr,hp];have hp':¬k=p.1:=λe=>hp e.symm;rcases dV hK k L l (i+1) h.2 with⟨h1,h2,h3⟩|⟨j,e',x,h1,h2,h3,h4,h5,h6⟩
  exact .inl ⟨by simp[ac,hp,h1],by simp[Instr.findAsking,hr,hp',h2],λv=>by simp[ai,hp,h3]⟩;exact .inr ⟨j+1,e',x,by simpa using h1,by simpa using h2,by simp[ac,hp,h3],h4,by simp[Instr.findAsking,hr,hp',h5];omega,λv=>by simp[ai,hp,h6]⟩
 |[],_::_,_,h=>by simp at h
 |_::_,[],_,h=>by simp at h
theorem kS(hK:KeyS P kt kf)(k:κ)(w:World):(Instr.keyThatStays (kf k) (kf k)).run P w= .ok (kf k) w:=by simp[Instr.keyThatStays,hK.same k]
end
theorem uJ{P:Program}{κ:Type}[DecidableEq κ]{kt:TypeId}{kf:κ->Value}{ls:κ->List Value}{ks:List LK}(hkf:∀a,kf a= .agg ⟨ls a⟩)(hT:jK P 100 kt=some ks)(hag:aW P kt=some true)(hw:(match P.underlying kt with|some (.array _ _)|some (.struct _)=>true|_=>false)=true)
  (hc:∀em k w,(Instr.checkKey em 10000 kt (kf k)).run P w= .ok () w)(hf:∀a,cx ks (ls a)=true)(he:∀a b,eqL (ls a) (ls b)=decide (a=b))(hs:∀a,Instr.sameBits 10000 (kf a) (kf a)=true):KeyS P kt kf:=
 ⟨hw,hc,λa b w=>by
  rw[hkf a,hkf b,<-he a b];exact((eA (P:=P) w 100).1 kt ks 10000 (ls a) (ls b) hT dC (hf a) (hf b)).1 hag,hs⟩
theorem gP{P:Program}{T:TypeId}{d:TypeDesc}(hu:P.underlying T=some d)(hd:fG d=false){cs:Array Value}{off:Nat}{v:Value}(hc:cs[off]? =some v)(w:World):(part T cs off).run P w= .ok v w:=by simp only[part,Sem.run_bind,d3 ((lq hu).trans (by rw[hd])) w,Result.andThen_ok,Bool.false_eq_true,if_false,hc,Sem.run_pure]
section
variable{P:Program}{env:Env}{st:List AO}{dst:Option Tmp}{ty:TypeId}{pos:String}{after:Array Edge}{guard:Option (Nat×Bool)}
variable{κ α:Type}[DecidableEq κ]
theorem jR{w:World}{T kt et:TypeId}{kf:κ->Value}{b:Nat}{l:List MapEntry}{clock:Nat}{k:κ}{u:Value}{L:List (κ×α)}(hT:P.underlying T=some (.map kt et))(hK:KeyS P kt kf)(hb:w.heap[b]? =some (.map ⟨l⟩ clock))
  (hl:l.map (·.key)=L.map λp=>kf p.1)(v:α):∃l' clock',(Instr.mapUpdate T (.map (some b)) (kf k) u).run P w= .ok () { w with heap:=w.heap.setIfInBounds b (.map ⟨l'⟩ clock') }/\
   l'.map (·.key)=(ai L k v).map (λp=>kf p.1)/\((ai L k v=L++ [(k,v)]/\l'.map (·.val)=l.map (·.val)++ [u])\/∃j,ai L k v=L.set j (k,v)/\l'.map (·.val)=(l.map (·.val)).set j u)/\(Born l clock->Born l' clock'):=by
 have hfk:=run_findKey_eq (P:=P) w hK.wide (kf k) l;rcases dV hK k L l 0 hl with⟨h1,h2,h3⟩|⟨j,e,x,h1,h2,h3,h4,h5,h6⟩
 rw[h2 w] at hfk;refine⟨l++ [⟨kf k,u,clock⟩],clock+1,?_,by rw[h3 v];simp[hl], .inl ⟨h3 v,sM⟩,λhB=>hB.push _ _⟩;simp[Instr.mapUpdate,run_underlying hT,MapKept.run_getObj_map hb,hK.chk,hfk,MapKept.run_setObj_map _ hb,Result.andThen];rw[h5 w] at hfk;have hj:(⟨l⟩:Array MapEntry)[j]? =some e:=by simpa using h1
 refine⟨l.modify j (λe'=>{ e' with key:=kf k,val:=u }),clock,?_,?_, .inr ⟨j,h6 v,?_⟩,λhB=>hB.modify _ _ _⟩;simp[Instr.mapUpdate,run_underlying hT,MapKept.run_getObj_map hb,hK.chk,hfk,h1,h4,kS hK,MapKept.run_setObj_map _ hb,Result.andThen];rw[h6 v];apply List.ext_getElem?;intro i;have hi:=congrArg (λz=>z[i]?) hl;simp only[List.getElem?_map] at hi;rw[List.getElem?_map,List.getElem?_map,List.getElem?_modify,List.getElem?_set];by_cases hij:j=i;subst hij;simp[h1,(giS.1 h2).1];simp[hij];simpa using hi;apply List.ext_getElem?;intro i;rw[List.getElem?_map,List.getElem?_modify,List.getElem?_set];by_cases hij:j=i;subst hij;simp[(giS.1 h1).1];simp[hij]
theorem mZ{m φ w a}{ki:Operand}{ka:AV}{vs:List Value}(he:EnvOk m φ w env a)(hk:opv env ki=some ka)(hl:Le ka (.d (.ag (vs.map D.v)))):a.eval ki= .agg ⟨vs⟩:=by have ex:=hl _ _ _ _ (bc he hk);simp only[RA,RD] at ex;obtain⟨cs,e1,e2⟩:=ex;rw[iM e2] at e1;exact e1
theorem gR{T kt et:TypeId}{o:Oper}{x ki v:Operand}{id:Nat}(kf:κ->Value)(g:α->AV)(L:List (κ×α)){k:κ}{u:α}{ka:AV}{vs:List Value}(ho:(o=⟨dst, .insert T x ki v,ty,pos,after,guard⟩)\/(o=⟨dst, .mapUpdate T x ki v,ty,pos,after,guard⟩))(hT:P.underlying T=some (.map kt et))(hK:KeyS P kt kf)
  (hx:opv env x=some (.mp id))(hi:st[id]? =some (mpO kf g L))(hk:opv env ki=some ka)(hl:Le ka (.d (.ag (vs.map D.v))))(hkf:kf k= .agg ⟨vs⟩)(hv:opv env v=some (g u)):
  Does P env st o (.d (.v undef)) (st.set id (mpO kf g (ai L k u))):=λm φ a w hs he=>by
 obtain⟨b,h1,h2⟩:=d7 he hx;obtain⟨b',hbb,h0,l,cl,g1,g2,g3,g4⟩:=hs.obj id _ _ hi h1;simp only[Cz.blk.injEq] at hbb;subst hbb;have hkeys:l.map (·.key)=L.map (λp=>kf p.1):=by rw[g2];simp
 obtain⟨l',clock',r1,r2,r3,r4⟩:=jR (P:=P) (k:=k) (u:=a.eval v) (w:=w) hT hK g1 hkeys u;have hru:=bc he hv;have hvals:RAs m φ w (((ai L k u).map λp=>(kf p.1,g p.2)).map (·.2)) (l'.map (·.val)):=by
  rw[List.map_map] at g3⊢;rcases r3 with⟨e1,e2⟩|⟨j,e1,e2⟩
  rw[e1,e2,List.map_append];exact aH g3 (aC hru bB);rw[e1,e2,List.map_set];exact gu g3 hru
 obtain⟨k1,k2⟩:=jh (clock':=clock') hs hi h1 (by rw[r2];simp) hvals (r4 g4);refine⟨undef,_,m,φ, .inr ⟨?_,rfl⟩,k1,k2,RAv⟩;have hkv:=(mZ he hk hl).trans hkf.symm;rcases ho with rfl|rfl<;>simp[execOp,h2,hkv,r1]
theorem pz{T kt et:TypeId}{x ki:Operand}{id:Nat}(kf:κ->Value)(g:α->AV)(L:List (κ×α)){k:κ}{z:α}{zv:Value}{ka:AV}{vs:List Value}(hT:P.underlying T=some (.map kt et))(hK:KeyS P kt kf)
  (hx:opv env x=some (.mp id))(hi:st[id]? =some (mpO kf g L))(hk:opv env ki=some ka)(hl:Le ka (.d (.ag (vs.map D.v))))(hkf:kf k= .agg ⟨vs⟩)(hz:(P.info? et).bind (·.zero)=some zv)(hgz:g z= .d (.v zv)):
  Yields P env st ⟨dst, .lookup T x ki false,ty,pos,after,guard⟩ (g ((ac L k).getD z)):=λm φ a w hs he=>by
 obtain⟨b,h1,h2⟩:=d7 he hx;obtain⟨b',hbb,h0,l,cl,g1,g2,g3,g4⟩:=hs.obj id _ _ hi h1;simp only[Cz.blk.injEq] at hbb;subst hbb;have hkeys:l.map (·.key)=L.map (λp=>kf p.1):=by rw[g2];simp
 have hkv:=(mZ he hk hl).trans hkf.symm;have hlt:=bK g1;cases hinf:P.info? et with
 |none=>simp[hinf] at hz
 |some i=>
  simp only[hinf,bnS] at hz;rcases dV hK k L l 0 hkeys with⟨q1,q2,_⟩|⟨j,e,y,q1,q2,q3,q4,q5,_⟩
  refine⟨zv,by rw[q1,Option.getD_none,hgz];exact RAv,λw' hb=>?_⟩;have g1':w'.heap[b]? =some (.map ⟨l⟩ cl):=by rw[hb.block b hlt];exact g1
  have hfk:=run_findKey_eq (P:=P) w' hK.wide (kf k) l;rw[q2 w'] at hfk;simp[execOp,Instr.lookup,h2,hkv,run_underlying hT,MapKept.run_getObj_map g1',hK.chk,hfk,zeroValue,typeInfo,hinf,hz,Result.andThen];have hval:RA m φ w (g y) e.val:=by
   have:(((L.map λp=>(kf p.1,g p.2)).map (·.2)))[j]? =some (g y):=by simp[q2]
   obtain⟨v',hv1,hv2⟩:=bQ g3 this;simp only[List.getElem?_map,q1,Option.map_some,ao] at hv1;rw[hv1];exact hv2
  refine⟨e.val,by rw[q3,Option.getD_some];exact hval,λw' hb=>?_⟩;have g1':w'.heap[b]? =some (.map ⟨l⟩ cl):=by rw[hb.block b hlt];exact g1
  have hfk:=run_findKey_eq (P:=P) w' hK.wide (kf k) l;rw[q5 w'] at hfk;simp[execOp,Instr.lookup,h2,hkv,run_underlying hT,MapKept.run_getObj_map g1',hK.chk,hfk,Result.andThen]
end
end Go.Sk
namespace Go.Sk
open Go.RowKit (Below)
section
variable{P:Program}{env:Env}{st:List AO}{dst:Option Tmp}{ty:TypeId}{pos:String}{after:Array Edge}{guard:Option (Nat×Bool)}
theorem iA{α β:Type}{R:α->List β}{k:Nat}(hR:∀x,(R x).length=k):∀(l:List α)(i:Nat)(z:α),l[i]? =some z->∃r,(l.flatMap R).drop (i*k)=R z++r
 |[],i,z,h=>by simp at h
 |x::l,0,z,h=>by
  simp only[List.getElem?_cons_zero,ao] at h;subst h;exact⟨l.flatMap R,sM⟩
 |x::l,i+1,z,h=>by
  obtain⟨r,hr⟩:=iA hR l i z (by simpa using h);refine⟨r,?_⟩;rw[List.flatMap_cons,List.drop_append,hR,Nat.add_mul,Nat.one_mul,Nat.add_sub_cancel,hr,List.drop_eq_nil_of_le (by rw[hR];omega),List.nil_append]
theorem ve{T n k:Nat}{bb:Bool}{x ix:Operand}{α:Type}{R:α->List D}(tab:List α){kk:IntKind}{i:Int}{z:α}(hR:∀x,(R x).length=k)(hT:eD P T=some (n,k,bb))(hx:opv env x=some (.d (.pc (tab.flatMap R))))(hi:opv env ix=some (.d (.v (.int kk i))))(hl:tab.length=n)(h:idx tab i=some z):
  Yields P env st ⟨dst, .indexAddr T x ix,ty,pos,after,guard⟩ (.d (.pc (R z))):=λm φ a w hs he=>by
 obtain⟨v,h1,h2⟩:=gM (dst:=dst) (ty:=ty) (pos:=pos) (after:=after) (guard:=guard) hT hx hi (az h) (by rw[<-hl];exact cQ h) m φ a w hs he;refine⟨v,?_,h2⟩;simp only[RA,RD] at h1⊢;obtain⟨b,off,g1,g2⟩:=h1;refine⟨b,off,g1,?_⟩;obtain⟨r,hr⟩:=iA hR tab i.toNat z (dp h);rw[hr] at g2;have:=iK k g2;rwa [<-hR z,List.take_left' rfl] at this
end
end Go.Sk
namespace Go.Sk
open Go.RowKit (Below)
open Go.Sort (Holds putRow grow)
abbrev EI(x:Int):List D:=[.i .i64 x]
def iv(L:List Int):List Value:=L.map (Value.int .i64)
theorem d4{m φ w}:∀{L:List Int}{vs:List Value},RAs m φ w (L.map (aJ EI)).flatten vs↔vs=iv L
 |[],vs=>by simp[RAs,iv]
 |x::L,vs=>by
  simp only[List.map_cons,List.flatten_cons,aJ,List.map_nil,List.cons_append,List.nil_append,RAs,RA,RD,iv];constructor;rintro⟨c,cs,rfl,rfl,h⟩;rw[(d4 (L:=L)).1 h,iv];rintro rfl;exact⟨_,_,rfl,rfl,(d4 (L:=L)).2 rfl⟩
theorem kT(L:List Int):∀e∈L.map (aJ EI),e.length=1:=λe he=>by
 obtain⟨x,_,rfl⟩:=List.mem_map.1 he;rfl
theorem tf{P:Program}{f:FuncId}{T ver:Nat}{L L':List Int}(hcan:eU P f)(_hlen:L'.length=L.length)
  (h:∀(w:World)(y:Value),w.ownsRow 0 T 1 y L.length (iv L)->Calls P f ⟨[y]⟩ w λe w'=>e= .returned (.tuple #[])/\w'.ownsRow 0 T 1 y L'.length (iv L')/\w.grownBy w' y.ownBlock):
  Ctr P f [.os 0 ver] [.os T 1 ver (L.map (aJ EI))] (iH 1 (.tu []) λ_=> [.os T 1 ver (L'.map (aJ EI))]):=by
 refine⟨hcan,λm φ w vs hs ha=>?_⟩;simp only[RAs] at ha;obtain⟨y,_,rfl,h1,rfl⟩:=ha;simp only[RA] at h1;obtain⟨v0,y0,g1,g2,g3⟩:=h1;obtain⟨y1,xs,e1,r1,r2,r3,r4⟩:=hs.obj 0 _ _ rfl g1;simp only[Cz.tok.injEq] at e1;obtain⟨rfl,rfl⟩:=e1;have:=g3 rfl;subst this;have hx:=d4.1 r2;subst hx;rw[List.length_map] at r1;refine(h w y r1).mono ?_;rintro e w' ⟨rfl,k1,k2⟩;have hF:Fz φ w φ w':=λb off cc q1 q2=>⟨q1,by
  have hlt:=bV hs q1;have hne:some b≠y.ownBlock:=λe=>by have:=r4 b e.symm;omega
  rw[cu (k2.block b hlt hne)];exact q2⟩
 have hm:m.set 0 (.tok v0 y)=m:=by apply List.ext_getElem?;intro i;by_cases hi:i=0;subst hi;rw[List.getElem?_set_self (cF g1),g1];rw[List.getElem?_set_ne (Ne.symm hi)]
 obtain⟨q1,q2⟩:=dQ (o':= .os T 1 v0 (L'.map (aJ EI))) (c':= .tok v0 y) (φ':=φ) hs (id:=0) rfl rfl g1 (Cz.le_refl _) k2.os k2.tape k2.output k2.size
  (λb hb hn=>⟨k2.block b hb (λe=>hn (by simp[Cz.has,<-e])),rfl⟩) hF (λb hb=>hs.lt b (Nat.le_trans k2.size hb)) (λb hb=> .inl hb)
  ⟨y,_,rfl,by rw[List.length_map];exact k1,d4.2 rfl,kT L',r4⟩
 rw[hm] at q1 q2;exact⟨.tuple #[], .d (.tu []),[.os T 1 v0 (L'.map (aJ EI))],m,φ,rfl,⟨v0,rfl,sM,rfl⟩,q1,q2,by simp[RA,RD,RFs]⟩
theorem jk{w:World}{T g cap n:Nat}{L:List Int}(h:w.ownsRow 0 T 1 (.slice (some ⟨g,0,none⟩) n cap) n (iv L))(hn:n=L.length):Holds (Value.int .i64) w g 0 L.toArray:=λj hj=>by
 subst hn;rcases h.2 with⟨hv,_⟩|⟨g',cap',cur,hv,_,hh,_⟩
 cases hv;cases hv;have hj':j<L.length:=by simpa using hj
 refine⟨?_,?_⟩;have:=h.cellAt j oM;rw[Nat.zero_add,this];simp[iv,hj'];simp[World.frozen?,hh]
theorem th{P:Program}{f:FuncId}{T ver:Nat}{L:List Int}(hcan:eU P f)
  (hs:∀(blk off cap:Nat)(zs:List Int)(w:World),Holds (Value.int .i64) w blk off zs.toArray->blk<w.heap.size->zs.length<4611686018427387904->
   Calls P f #[.slice (some ⟨blk,off,none⟩) zs.length cap] w λe w'=>e= .returned (.tuple #[])/\∃n os,w'=grow (putRow (Value.int .i64) (Sort.ahead w n) blk off (zs.mergeSort λx y=>decide (x<=y)).toArray) os)
  (hn:∀(p:Option Addr)(cap:Nat)(w:World),Calls P f #[.slice p 0 cap] w λe w'=>e= .returned (.tuple #[])/\w'=w)(hl:L.length<4611686018427387904):
  Ctr P f [.os 0 ver] [.os T 1 ver (L.map (aJ EI))] (iH 1 (.tu []) λ_=> [.os T 1 ver ((L.mergeSort λx y=>decide (x<=y)).map (aJ EI))]):=by
 refine tf hcan sM (λw y hown=>?_);have hown':=hown;obtain⟨h1,h2⟩:=hown;rcases h2 with⟨rfl,h2⟩|⟨g,cap,cur,rfl,_,p2,p3,p4,p5,p6⟩
 have:L=[]:=List.eq_nil_of_length_eq_zero h2;subst this;refine(hn none 0 w).mono ?_;rintro e w' ⟨rfl,rfl⟩;exact⟨rfl,by simpa[iv] using World.ownsRow_nil w' 0 T 1,World.grownBy.refl _ _⟩;refine(hs g 0 cap L w (jk hown' rfl) (Array.getElem?_eq_some_iff.1 p2).1 hl).mono ?_;rintro e w' ⟨rfl,n,os,rfl⟩;have:=ownsRow_sortedI (w:=w) (base:=0) (n:=n) (os:=os) (ss:=L) (ts:=L.mergeSort λx y=>decide (x<=y)) sM (Nat.zero_le g) p2 p3 p4 p5;exact⟨rfl,by simpa[iv] using this,grownBy_sortedI _⟩
theorem uq{P:Program}{f:FuncId}{T ver:Nat}{L L':List Int}(hcan:eU P f)
  (h:∀(w:World)(y:Value),w.ownsRow 0 T 1 y L.length (iv L)->Calls P f ⟨[y]⟩ w λe w'=>∃y',e= .returned y'/\y'.ownBlock=y.ownBlock/\w'.ownsRow 0 T 1 y' L'.length (iv L')/\w.grownBy w' y.ownBlock):
  Ctr P f [.os 0 ver] [.os T 1 ver (L.map (aJ EI))] (iH 1 (.sl (L'.map EI)) λ_=> [.dead]):=by
 refine⟨hcan,λm φ w vs hs ha=>?_⟩;simp only[RAs] at ha;obtain⟨y,_,rfl,h1,rfl⟩:=ha;simp only[RA] at h1;obtain⟨v0,y0,g1,g2,g3⟩:=h1;obtain⟨y1,xs,e1,r1,r2,r3,r4⟩:=hs.obj 0 _ _ rfl g1;simp only[Cz.tok.injEq] at e1;obtain⟨rfl,rfl⟩:=e1;have:=g3 rfl;subst this;have hx:=d4.1 r2;subst hx;rw[List.length_map] at r1;refine(h w y r1).mono ?_;rintro e w' ⟨y',rfl,k0,k1,k2⟩;have hF:Fz φ w φ w':=λb off cc q1 q2=>⟨q1,by
  have hlt:=bV hs q1;have hne:some b≠y.ownBlock:=λe=>by have:=r4 b e.symm;omega
  rw[cu (k2.block b hlt hne)];exact q2⟩
 obtain⟨q1,q2⟩:=dQ (o':= .os T 1 (v0+1) (L'.map (aJ EI))) (c':= .tok (v0+1) y') (φ':=φ) hs (id:=0) rfl rfl g1 (fm _ _ _) k2.os k2.tape k2.output k2.size
  (λb hb hn=>⟨k2.block b hb (λe=>hn (by simp[Cz.has,<-e])),rfl⟩) hF (λb hb=>hs.lt b (Nat.le_trans k2.size hb)) (λb hb=> .inl (by simpa[Cz.has,k0] using hb))
  ⟨y',_,rfl,by rw[List.length_map];exact k1,d4.2 rfl,kT L',λb hb=>r4 b (by rw[<-k0];exact hb)⟩
 have hst:([AO.os T 1 v0 (L.map (aJ EI))].set 0 (.os T 1 (v0+1) (L'.map (aJ EI))))=[.os T 1 (v0+1) ((L'.map EI).map λe=>e.map AV.d)]:=by simp[List.map_map,aJ,Function.comp_def]
 rw[hst] at q2;obtain⟨φ',f1,f2,f3⟩:=gG (id:=0) (y:=y') q2 rfl (by rw[List.getElem?_set_self (cF g1)]);exact⟨y', .d (.sl (L'.map EI)),[.dead],_,φ',rfl,⟨0,rfl,sM,rfl⟩,q1.trans f1,f2,by simpa[RA] using f3⟩
theorem l4(cur:Array Value)(n:Nat)(ts zs:List Int)(_hn:n<=cur.size)(h:ts.length+zs.length<=cur.size):(Sort.putCells (Value.int .i64) 0 (ts++zs).toArray cur).toList.take ts.length=iv ts:=by apply List.ext_getElem?;intro j;by_cases hj:j<ts.length;rw[List.getElem?_take_of_lt hj,Array.getElem?_toList];simp[Sort.putCells,iv,hj,show j<cur.size by omega,show j<ts.length+zs.length by omega,List.getElem_append_left hj];rw[List.getElem?_take_eq_none oM,List.getElem?_eq_none (by simp[iv];omega)]
theorem oW{P:Program}{f:FuncId}{T ver:Nat}{L:List Int}(hcan:eU P f)
  (hs:∀(blk off cap:Nat)(zs:List Int)(w:World),Holds (Value.int .i64) w blk off zs.toArray->zs.length<=9223372036854775807->zs.length<=cap->
   Calls P f #[.slice (some ⟨blk,off,none⟩) zs.length cap] w λe w'=>e= .returned (.slice (some ⟨blk,off,none⟩) (Lib.compact zs).length cap)/\∃q,w'=putRow (Value.int .i64) (Sort.ahead w q) blk off (Lib.compact zs++List.replicate (zs.length - (Lib.compact zs).length) 0).toArray)
  (hn:∀(p:Option Addr)(cap:Nat)(w:World),Calls P f #[.slice p 0 cap] w λe w'=>e= .returned (.slice p 0 cap)/\w'=w)(hc:(Lib.compact L).length<=L.length):
  Ctr P f [.os 0 ver] [.os T 1 ver (L.map (aJ EI))] (iH 1 (.sl ((Lib.compact L).map EI)) λ_=> [.dead]):=by
 refine uq hcan (λw y hown=>?_);have hown':=hown;obtain⟨h1,h2⟩:=hown;rcases h2 with⟨rfl,h2⟩|⟨g,cap,cur,rfl,_,p2,p3,p4,p5,p6⟩
 have:L=[]:=List.eq_nil_of_length_eq_zero h2;subst this;have hc0:Lib.compact ([]:List Int)=[]:=List.eq_nil_of_length_eq_zero (by simpa using hc);refine(hn none 0 w).mono ?_;rintro e w' ⟨rfl,rfl⟩;exact⟨_,rfl,rfl,by rw[hc0];exact World.ownsRow_nil w' 0 T 1,World.grownBy.refl _ _⟩;refine(hs g 0 cap L w (jk hown' rfl) (by simp only[maxLen] at p4;omega) p3).mono ?_;rintro e w' ⟨rfl,q,rfl⟩;refine⟨_,rfl,rfl,⟨by simp[iv], .inr ⟨g,cap,Sort.putCells (Value.int .i64) 0 (Lib.compact L++List.replicate (L.length - (Lib.compact L).length) 0).toArray cur,rfl,Nat.zero_le _,?_,oM,p4,?_,?_⟩⟩,?_⟩;have:=heap_sortedI (w:=w) (g:=g) (n:=q) (os:= #[]) (Lib.compact L++List.replicate (L.length - (Lib.compact L).length) 0).toArray p2;simpa using this;simp[Sort.putCells,p5];rw[Nat.mul_one];exact l4 cur 0 _ _ (Nat.zero_le _) (by rw[List.length_replicate];omega);have:=grownBy_sortedI (w:=w) (g:=g) (n:=q) (os:= #[]) (Lib.compact L++List.replicate (L.length - (Lib.compact L).length) 0).toArray;show w.grownBy _ (some g);simpa using this
end Go.Sk
