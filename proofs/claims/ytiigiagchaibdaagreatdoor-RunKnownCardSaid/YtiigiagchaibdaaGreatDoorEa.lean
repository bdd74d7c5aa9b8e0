/-
  Closed runs: maps whose keys and stamps are known one by one, and the walks over them.
-/
import Derived.Maps.RangeRun
import Derived.Laws.IdiomStrings
import Derived.Test.YtiigiagchaibdaaGreatDoorT
set_option linter.unusedVariables false
set_option linter.unusedSimpArgs false
set_option linter.unusedSectionVars false
set_option linter.unnecessarySimpa false
namespace Go.Sk
open Go.RowKit (Below)
open Go.MapKept (IsKey sameNow_of_keys run_checkKey run_findKey run_keyThatStays)
def ixL{κ:Type}[DecidableEq κ]:List κ→κ→Option Nat
 |[],_=>none
 |a::l,k=>if a=k then some 0 else(ixL l k).map (·+1)
theorem nT{κ:Type}[DecidableEq κ]{k:κ}:∀{L:List κ}{j:Nat},ixL L k=some j→L[j]? =some k
 |[],_,h=>by cases h
 |a::L,j,h=>by
  unfold ixL at h
  by_cases hp:a=k
  ·rw[if_pos hp] at h
   obtain rfl:=inS h
   rw[hp];rfl
  ·rw[if_neg hp,Option.map_eq_some_iff] at h
   obtain⟨i,h1,rfl⟩:=h
   rw[List.getElem?_cons_succ]
   exact nT h1
structure KeyX(P:Program){κ:Type}[DecidableEq κ](kt:TypeId)(kf:κ→Value):Prop where
 chk:∀em k w,(Instr.checkKey em 10000 kt (kf k)).run P w= .ok () w
 find:∀(k:κ)(L:List κ)(l:List MapEntry)(w:World),l.map (·.key)=L.map kf→(Instr.findKey kt (kf k) l).run P w= .ok ((ixL L k).bind λj=>(l[j]?).map λe=>(j,e.val)) w
 stays:∀k w,(Instr.keyThatStays (kf k) (kf k)).run P w= .ok (kf k) w
section
variable{κ:Type}[DecidableEq κ]{P:Program}{d:TypeDesc}{kt:TypeId}{kf:κ→Value}
theorem iW(hK:KeyF d kf)(k:κ):∀(L:List κ)(l:List MapEntry)(i:Nat),l.map (·.key)=L.map kf→Instr.findNow d (kf k) l i=some ((ixL L k).bind λj=>(l[j]?).map λe=>(i+j,e.val))
 |[],[],i,_=>rfl
 |a::L,e::l,i,h=>by
  simp only[List.map_cons,List.cons.injEq] at h
  obtain⟨r,hr,hiff⟩:=sameNow_of_keys (hK.key k) (h.1▸hK.key a:IsKey d e.key)
  by_cases hp:a=k
  ·have:r=true:=hiff.2 (by rw[h.1,hp])
   simp[Instr.findNow,hr,this,ixL,hp]
  ·have hne:r=false:=by
    cases r with
    |false=>rfl
    |true=>exact absurd (hK.inj _ _ ((hiff.1 rfl).trans h.1)).symm hp
   rw[show ixL (a::L) k=(ixL L k).map (·+1) by rw[ixL,if_neg hp]]
   simp only[Instr.findNow,hr,hne,iW hK k L l (i+1) h.2]
   cases ixL L k with
   |none=>rfl
   |some j=>
    simp only[bnS,Option.map_some,List.getElem?_cons_succ]
    rw[show i+1+j=i+(j+1) by omega]
 |[],_::_,_,h=>by simp at h
 |_::_,[],_,h=>by simp at h
theorem eN(hK:KeyS P kt kf)(k:κ)(w:World):∀(L:List κ)(l:List MapEntry)(i:Nat),l.map (·.key)=L.map kf→(Instr.findAsking kt (kf k) l i).run P w= .ok ((ixL L k).bind λj=>(l[j]?).map λe=>(i+j,e.val)) w
 |[],[],i,_=>by simp[Instr.findAsking,ixL]
 |a::L,e::l,i,h=>by
  simp only[List.map_cons,List.cons.injEq] at h
  have hr:=hK.eq k a w
  rw[←h.1] at hr
  by_cases hp:a=k
  ·simp[Instr.findAsking,hr,hp,ixL]
  ·have hp':¬k=a:=λe=>hp e.symm
   rw[show ixL (a::L) k=(ixL L k).map (·+1) by rw[ixL,if_neg hp]]
   simp only[Instr.findAsking,Sem.run_bind,hr,hp',decide_false,Result.andThen_ok,Bool.false_eq_true,if_false,eN hK k w L l (i+1) h.2]
   cases ixL L k with
   |none=>rfl
   |some j=>
    simp only[bnS,Option.map_some,List.getElem?_cons_succ]
    rw[show i+1+j=i+(j+1) by omega]
 |[],_::_,_,h=>by simp at h
 |_::_,[],_,h=>by simp at h
theorem rI(hd:P.underlying kt=some d)(hK:KeyF d kf):KeyX P kt kf:=
 ⟨λem k w=>by simp[run_checkKey hd (hK.key k)],λk L l w h=>run_findKey hd (by simpa using iW hK k L l 0 h),λk w=>by simp[run_keyThatStays (hK.key k)]⟩
theorem rH(hK:KeyS P kt kf):KeyX P kt kf:=
 ⟨hK.chk,λk L l w h=>by rw[run_findKey_eq (P:=P) w hK.wide (kf k) l];simpa using eN hK k w L l 0 h,λk w=>d7 hK k w⟩
end
inductive KDk where
 |i(k:IntKind)
 |p(k1 k2:IntKind)
def jK(P:Program)(kt:TypeId):Option KDk:=match P.underlying kt with
 |some (.int k)=>some (.i k)
 |some (.struct fs)=>(match fs.toList with
  |[f1,f2]=>(match P.underlying f1.type,P.underlying f2.type,fN P 100 kt with
   |some (.int k1),some (.int k2),some [.int k1', .int k2']=>bif decide (k1=k1')&&(decide (k2=k2')&&(Nat.beq f1.offset 0&&Nat.beq f2.offset 1)) then some (.p k1 k2) else none
   |_,_,_=>none)
  |_=>none)
 |_=>none
def dkI(k:IntKind):Value→Option Int
 | .int k' i=>bif decide (k=k') then some i else none
 |_=>none
def dkP(k1 k2:IntKind):Value→Option (Int×Int)
 | .agg a=>(match a.toList with
  |[.int a1 i, .int a2 j]=>bif decide (k1=a1)&&decide (k2=a2) then some (i,j) else none
  |_=>none)
 |_=>none
theorem rf{k:IntKind}{v:Value}{i:Int}(h:dkI k v=some i):v= .int k i:=by
 unfold dkI at h
 split at h
 ·rename_i k' j
  cases hb:decide (k=k') with
  |true=>rw[hb] at h;obtain rfl:=inS h;rw[of_decide_eq_true hb]
  |false=>rw[hb] at h;cases h
 ·cases h
theorem re{k1 k2:IntKind}{v:Value}{x:Int×Int}(h:dkP k1 k2 v=some x):v= .agg ⟨[.int k1 x.1, .int k2 x.2]⟩:=by
 unfold dkP at h
 split at h
 ·rename_i a
  split at h
  ·rename_i a1 i a2 j hl
   cases hb:decide (k1=a1)&&decide (k2=a2) with
   |true=>
    rw[hb] at h
    obtain rfl:=inS h
    rw[Bool.and_eq_true] at hb
    obtain⟨a⟩:=a
    simp only at hl
    rw[hl,of_decide_eq_true hb.1,of_decide_eq_true hb.2]
   |false=>rw[hb] at h;cases h
  ·cases h
 ·cases h
theorem nS{P:Program}{kt:TypeId}{k:IntKind}(h:jK P kt=some (.i k)):KeyX P kt (λx:Int=>Value.int k x):=by
 unfold jK at h
 split at h
 ·rename_i k' hu
  simp only[aa,KDk.i.injEq] at h
  subst h
  exact rI hu (KeyF.int _)
 ·split at h
  ·split at h
   ·rw[Bool.cond_eq_ite] at h
    split at h<;>cases h
   ·cases h
  ·cases h
 ·cases h
theorem nR{P:Program}{kt:TypeId}{k1 k2:IntKind}(h:jK P kt=some (.p k1 k2)):KeyX P kt (λx:Int×Int=>Value.agg ⟨[.int k1 x.1, .int k2 x.2]⟩):=by
 unfold jK at h
 split at h
 ·cases h
 ·rename_i fs hu
  split at h
  ·rename_i f1 f2 hf
   split at h
   ·rename_i a1 a2 b1 b2 h1 h2 h3
    cases hb:(decide (a1=b1)&&(decide (a2=b2)&&(Nat.beq f1.offset 0&&Nat.beq f2.offset 1))) with
    |true=>
     rw[hb] at h
     simp only[cdT,aa,KDk.p.injEq] at h
     obtain⟨rfl,rfl⟩:=h
     simp only[Bool.and_eq_true] at hb
     obtain⟨c1,c2,c3,c4⟩:=hb
     have c1:=of_decide_eq_true c1
     have c2:=of_decide_eq_true c2
     subst c1 c2
     obtain⟨fs⟩:=fs
     simp only at hf
     subst hf
     exact rH (gM hu h1 h2 (nbE c3) (nbE c4) h3)
    |false=>rw[hb] at h;cases h
   ·cases h
  ·cases h
 ·cases h
def lJ{κ:Type}(dk:Value→Option κ):List (Value×Nat)→Option (List κ)
 |[]=>some []
 |p::l=>match dk p.1,lJ dk l with
  |some k,some ks=>some (k::ks)
  |_,_=>none
theorem iS{κ:Type}{dk:Value→Option κ}{kf:κ→Value}(hd:∀v k,dk v=some k→v=kf k):∀{es:List (Value×Nat)}{L:List κ},lJ dk es=some L→es.map (·.1)=L.map kf
 |[],L,h=>by obtain rfl:=inS h;rfl
 |p::l,L,h=>by
  unfold lJ at h
  split at h
  ·rename_i h1 h2
   obtain rfl:=inS h
   rw[List.map_cons,List.map_cons,hd _ _ h1,iS hd h2]
  ·cases h
def nm:List AV→Option (List Value)
 |[]=>some []
 | .d (.v v)::l=>match nm l with
  |some vs=>some (v::vs)
  |none=>none
 |_=>none
def np:List D→Option (List Value)
 |[]=>some []
 | .v v::l=>match np l with
  |some vs=>some (v::vs)
  |none=>none
 |_=>none
def agV:AV→Option (List Value)
 | .ag ps=>nm ps
 | .d (.ag ds)=>np ds
 |_=>none
theorem lj:∀{ps:List AV}{vs:List Value},nm ps=some vs→ps=(vs.map D.v).map AV.d
 |[],vs,h=>by obtain rfl:=inS h;rfl
 |x::l,vs,h=>by
  unfold nm at h
  split at h
  ·rename_i h0;cases h0
  ·rename_i v l' h0
   obtain⟨rfl,rfl⟩:=List.cons.inj h0
   split at h
   ·rename_i vs' h1
    obtain rfl:=inS h
    rw[lj h1]
    rfl
   ·cases h
  ·cases h
theorem lk:∀{ps:List D}{vs:List Value},np ps=some vs→ps=vs.map D.v
 |[],vs,h=>by obtain rfl:=inS h;rfl
 |x::l,vs,h=>by
  unfold np at h
  split at h
  ·rename_i h0;cases h0
  ·rename_i v l' h0
   obtain⟨rfl,rfl⟩:=List.cons.inj h0
   split at h
   ·rename_i vs' h1
    obtain rfl:=inS h
    rw[lk h1]
    rfl
   ·cases h
  ·cases h
theorem jf{x:AV}{vs:List Value}(h:agV x=some vs):Le x (.d (.ag (vs.map D.v))):=by
 unfold agV at h
 split at h
 ·rw[lj h];exact aK (Les.refl _)
 ·rw[lk h];exact Le.refl _
 ·cases h
def tE(x:AV):Option Value:=match x with
 | .d (.v v)=>some v
 |x=>(agV x).map λvs=> .agg ⟨vs⟩
theorem nQ{m φ w}{x:AV}{v y:Value}(h:tE x=some v)(hr:RA m φ w x y):y=v:=by
 unfold tE at h
 split at h
 ·obtain rfl:=inS h
  simpa[RA,RD] using hr
 ·rw[Option.map_eq_some_iff] at h
  obtain⟨vs,h1,rfl⟩:=h
  have:=jf h1 _ _ _ _ hr
  simp only[RA,RD] at this
  obtain⟨cs,e1,e2⟩:=this
  rw[cY e2] at e1
  exact e1
def lkG{κ:Type}[DecidableEq κ](dk:Value→Option κ)(es:List (Value×Nat))(xs:List AV)(zv kv:Value):Option (AV×Bool):=
 match dk kv,lJ dk es with
 |some k,some L=>(match ixL L k with
  |some j=>(match xs[j]? with
   |some x=>some (x,true)
   |none=>none)
  |none=>some (dM zv,false))
 |_,_=>none
def lkD(P:Program)(kt:TypeId)(es:List (Value×Nat))(xs:List AV)(zv kv:Value):Option (AV×Bool):=match jK P kt with
 |some (.i k)=>lkG (dkI k) es xs zv kv
 |some (.p k1 k2)=>lkG (dkP k1 k2) es xs zv kv
 |none=>none
def tuB(c:Bool)(r:AV×Bool):AV:=bif c then .tu [r.1, .d (.v (.bool r.2))] else r.1
def lkX(P:Program)(env:Env)(st:List AO)(T:TypeId)(x ki:Operand)(c:Bool):Option AV:=
 match P.underlying T,opv env x,(opv env ki).bind tE with
 |some (.map kt et),some xr,some kv=>(match(P.info? et).bind (·.zero),xr with
  |some zv, .mp id=>(match st[id]? with
   |some (.mb es xs _)=>(match lkD P kt es xs zv kv with
    |some r=>some (tuB c r)
    |none=>none)
   |_=>none)
  |some zv, .d (.v (.map none))=>(match lkD P kt [] [] zv kv with
   |some r=>some (tuB c r)
   |none=>none)
  |_,_=>none)
 |_,_,_=>none
def muG{κ:Type}[DecidableEq κ](dk:Value→Option κ)(es:List (Value×Nat))(xs:List AV)(cl:Nat)(kv:Value)(uu:AV):Option AO:=
 match dk kv,lJ dk es with
 |some k,some L=>(match ixL L k with
  |some j=>some (.mb es (xs.set j uu) cl)
  |none=>some (.mb (es++ [(kv,cl)]) (xs++ [uu]) (cl+1)))
 |_,_=>none
def muX(P:Program)(env:Env)(st:List AO)(T:TypeId)(x ki v:Operand):Option (AV×List AO):=
 match P.underlying T,opv env x,(opv env ki).bind tE,opv env v with
 |some (.map kt _),some (.mp id),some kv,some uu=>(match st[id]? with
  |some (.mb es xs cl)=>(match(match jK P kt with
    |some (.i k)=>muG (dkI k) es xs cl kv uu
    |some (.p k1 k2)=>muG (dkP k1 k2) es xs cl kv uu
    |none=>none) with
   |some o=>some (.d (.v undef),st.set id o)
   |none=>none)
  |_=>none)
 |_,_,_,_=>none
def rgX(P:Program)(env:Env)(st:List AO)(T:TypeId)(x:Operand):Option (AV×List AO):=
 match P.underlying T,opv env x with
 |some (.map _ _),some (.mp id)=>(match st[id]? with
  |some (.mb _ _ cl)=>some (.pt st.length 0,st++ [.it (.mp id) cl [] cl])
  |_=>none)
 |some (.map _ _),some (.d (.v (.map none)))=>some (.pt st.length 0,st++ [.it (.d (.v (.map none))) 0 [] 0])
 |_,_=>none
def ot(es:List (Value×Nat))(s:Nat):Option Nat:=match es with
 |[]=>none
 |p::l=>bif Nat.beq p.2 s then some 0 else(match ot l s with
  |some j=>some (j+1)
  |none=>none)
def enX(env:Env)(st:List AO)(x:Operand):Option AV:=match opv env x with
 |some (.pt iid 0)=>(match st[iid]? with
  |some (.it (.mp id) _ seen stp)=>(match seen.getLast?,st[id]? with
   |some s,some (.mb es xs cl)=>bif Nat.beq cl stp then(match ot es s with
    |some j=>(match es[j]?,xs[j]? with
     |some p,some r=>some (.tu [dM p.1,r])
     |_,_=>none)
    |none=>none) else none
   |_,_=>none)
  |_=>none)
 |_=>none
section
variable{P:Program}{env:Env}{st:List AO}{dst:Option Tmp}{ty:TypeId}{pos:String}{after:Array Edge}{guard:Option (Nat×Bool)}
theorem qC{κ:Type}[DecidableEq κ]{dk:Value→Option κ}{kf:κ→Value}(hd:∀v k,dk v=some k→v=kf k){kt:TypeId}(hK:KeyX P kt kf){es:List (Value×Nat)}{xs:List AV}{zv kv:Value}{r:AV×Bool}(h:lkG dk es xs zv kv=some r)
  {m φ w}{l:List MapEntry}(q2:l.map (λe=>(e.key,e.born))=es)(q3:RAs m φ w xs (l.map (·.val))):
  (∀w' em,(Instr.checkKey em 10000 kt kv).run P w'= .ok () w')∧((r=(dM zv,false)∧∀w',(Instr.findKey kt kv l).run P w'= .ok none w')∨∃j v,r.2=true∧RA m φ w r.1 v∧∀w',(Instr.findKey kt kv l).run P w'= .ok (some (j,v)) w'):=by
 unfold lkG at h
 split at h
 ·rename_i k L hk hL
  have e1:=hd _ _ hk
  subst e1
  have hkeys:l.map (·.key)=L.map kf:=by rw[←iS hd hL,←q2,List.map_map];rfl
  have hf:=λw'=>hK.find k L l w' hkeys
  refine⟨λw' em=>hK.chk em k w',?_⟩
  split at h
  ·rename_i j hj
   split at h
   ·rename_i x hx
    obtain rfl:=inS h
    obtain⟨v,h1,h2⟩:=aW q3 hx
    rw[List.getElem?_map,Option.map_eq_some_iff] at h1
    obtain⟨e,h3,rfl⟩:=h1
    refine .inr ⟨j,e.val,rfl,h2,λw'=>?_⟩
    rw[hf w',hj,bnS,h3,Option.map_some]
   ·cases h
  ·rename_i hj
   obtain rfl:=inS h
   exact .inl ⟨rfl,λw'=>by rw[hf w',hj,Option.bind_none]⟩
 ·cases h
theorem qD{kt:TypeId}{es:List (Value×Nat)}{xs:List AV}{zv kv:Value}{r:AV×Bool}(h:lkD P kt es xs zv kv=some r)
  {m φ w}{l:List MapEntry}(q2:l.map (λe=>(e.key,e.born))=es)(q3:RAs m φ w xs (l.map (·.val))):
  (∀w' em,(Instr.checkKey em 10000 kt kv).run P w'= .ok () w')∧((r=(dM zv,false)∧∀w',(Instr.findKey kt kv l).run P w'= .ok none w')∨∃j v,r.2=true∧RA m φ w r.1 v∧∀w',(Instr.findKey kt kv l).run P w'= .ok (some (j,v)) w'):=by
 unfold lkD at h
 split at h
 ·rename_i hk;exact qC (λ_ _=>rf) (nS hk) h q2 q3
 ·rename_i hk;exact qC (λ_ _=>re) (nR hk) h q2 q3
 ·cases h
theorem vv{T:TypeId}{x ki:Operand}{c:Bool}{r:AV}(h:lkX P env st T x ki c=some r):Yields P env st ⟨dst, .lookup T x ki c,ty,pos,after,guard⟩ r:=λm φ a w hs he=>by
 unfold lkX at h
 split at h
 ·rename_i kt et xr kv hT hx hk
  obtain⟨ka,hk1,hk2⟩:=aO hk
  have hkv:a.eval ki=kv:=nQ hk2 (af he hk1)
  have htu:∀{r0:AV×Bool}{v:Value},RA m φ w r0.1 v→RA m φ w (tuB c r0) (if c then .tuple #[v, .bool r0.2] else v):=λ{r0 v} h9=>by
   cases c with
   |true=>simp only[tuB,cdT,if_true,RA];exact⟨_,rfl,au h9 (au RAv aR)⟩
   |false=>simpa[tuB] using h9
  split at h
  ·rename_i zv id hz
   cases hinf:P.info? et with
   |none=>simp[hinf] at hz
   |some inf=>
    simp only[hinf,bnS] at hz
    split at h
    ·rename_i es xs cl hst
     split at h
     ·rename_i r0 hr0
      obtain rfl:=inS h
      obtain⟨b,h1,h2⟩:=d1 he hx
      obtain⟨b',hbb,h0,l,g1,g2,g3⟩:=hs.obj id _ _ hst h1
      simp only[Cz.blk.injEq] at hbb
      subst hbb
      have hlt:=aP g1
      obtain⟨p1,p2⟩:=qD hr0 g2 g3
      rcases p2 with⟨rfl,p2⟩|⟨j,v,p2,p3,p4⟩
      ·refine⟨if c then .tuple #[zv, .bool false] else zv,htu (gf zv),λw' hb=>?_⟩
       have g1':w'.heap[b]? =some (.map ⟨l⟩ cl):=by rw[hb.block b hlt];exact g1
       simp[execOp,Instr.lookup,h2,hkv,run_underlying hT,MapKept.run_getObj_map g1',p1,p2,zeroValue,typeInfo,hinf,hz,Result.andThen]
      ·refine⟨if c then .tuple #[v, .bool true] else v,by have:=htu p3;rw[p2] at this;exact this,λw' hb=>?_⟩
       have g1':w'.heap[b]? =some (.map ⟨l⟩ cl):=by rw[hb.block b hlt];exact g1
       simp[execOp,Instr.lookup,h2,hkv,run_underlying hT,MapKept.run_getObj_map g1',p1,p4,Result.andThen]
     ·cases h
    ·cases h
  ·rename_i zv hz
   cases hinf:P.info? et with
   |none=>simp[hinf] at hz
   |some inf=>
    simp only[hinf,bnS] at hz
    split at h
    ·rename_i r0 hr0
     obtain rfl:=inS h
     have h2:=ah he hx
     obtain⟨p1,p2⟩:=qD (m:=m) (φ:=φ) (w:=w) (l:=[]) hr0 rfl aR
     rcases p2 with⟨rfl,p2⟩|⟨j,v,p2,p3,p4⟩
     ·refine⟨if c then .tuple #[zv, .bool false] else zv,htu (gf zv),λw' hb=>?_⟩
      simp[execOp,Instr.lookup,h2,hkv,run_underlying hT,p1,p2,zeroValue,typeInfo,hinf,hz,Result.andThen]
     ·refine⟨if c then .tuple #[v, .bool true] else v,by have:=htu p3;rw[p2] at this;exact this,λw' hb=>?_⟩
      simp[execOp,Instr.lookup,h2,hkv,run_underlying hT,p1,p4,Result.andThen]
    ·cases h
  ·cases h
 ·cases h
end
def byV:List (List AV)→Option (List UInt8)
 |[]=>some []
 |[.d (.v (.int .u8 n))]::l=>bif decide (0≤n)&&decide (n<256) then(match byV l with
  |some bs=>some (UInt8.ofNat n.toNat::bs)
  |none=>none) else none
 |_=>none
theorem rm:∀{es:List (List AV)}{bs:List UInt8},byV es=some bs→es.flatten=(bs.map λb=>Value.int .u8 (b.toNat:Int)).map (λv=>AV.d (D.v v))∧bs.length=es.length
 |[],bs,h=>by obtain rfl:=inS h;exact⟨rfl,rfl⟩
 |e::l,bs,h=>by
  unfold byV at h
  split at h
  ·rename_i h0;cases h0
  ·rename_i n l' h0
   obtain⟨rfl,rfl⟩:=List.cons.inj h0
   cases hb:decide (0≤n)&&decide (n<256) with
   |false=>rw[hb] at h;cases h
   |true=>
    rw[hb,cdT] at h
    rw[Bool.and_eq_true] at hb
    have h1:=of_decide_eq_true hb.1
    have h2:=of_decide_eq_true hb.2
    split at h
    ·rename_i bs' hbs
     obtain rfl:=inS h
     obtain⟨k1,k2⟩:=rm hbs
     refine⟨?_,by simp[k2]⟩
     have:((UInt8.ofNat n.toNat).toNat:Int)=n:=by
      rw[UInt8.toNat_ofNat']
      omega
     simp only[List.flatten_cons,List.map_cons,this,k1]
     rfl
    ·cases h
  ·cases h
theorem uB{m φ w}:∀{vs ys:List Value},RAs m φ w (vs.map λv=>AV.d (D.v v)) ys→ys=vs
 |[],ys,h=>by simpa[RAs] using h
 |v::vs,ys,h=>by
  simp only[List.map_cons,RAs] at h
  obtain⟨c,cs,rfl,h1,h2⟩:=h
  simp only[RA,RD] at h1
  rw[h1,uB h2]
section
variable{P:Program}{env:Env}{st:List AO}{dst:Option Tmp}{ty:TypeId}{pos:String}{after:Array Edge}{guard:Option (Nat×Bool)}
theorem y_b2s{S T e:TypeId}{x:Operand}{id ver Te k:Nat}{es:List (List AV)}{bs:List UInt8}(hS:P.underlying S=some (.slice e))(he8:P.underlying e=some (.int .u8))(hT:P.underlying T=some .string)(hx:opv env x=some (.os id ver))(hi:st[id]? =some (.os Te k ver es))(hb:byV es=some bs):
  Yields P env st ⟨dst, .convert S T x,ty,pos,after,guard⟩ (.d (.v (.string ⟨bs.toArray⟩))):=λm φ a w hs he=>by
 obtain⟨y,xs,h1,h2,h3,h4,h5,h6⟩:=gu hs he hx hi
 obtain⟨k1,k2⟩:=rm hb
 rw[k1] at h4
 have hxs:=uB h4
 subst hxs
 refine⟨.string ⟨bs.toArray⟩,RAv,λw' hbl=>?_⟩
 rcases h3.2 with⟨rfl,hn⟩|⟨g,cap,cur,rfl,_,hg,_⟩
 ·have:bs=[]:=List.eq_nil_of_length_eq_zero (by rw[k2];exact hn)
  subst this
  have:=run_convert_bytes_string (P:=P) w' S T e none 0 0 hS he8 hT
  simp[execOp,h2,this,Conv.bytesToString]
  rfl
 ·rw[←k2] at h3 h2
  have hc:∀j (hj:j<bs.length),w'.cell? ((⟨g,0,none⟩:Addr).add j)=some (.int .u8 (bs[j].toNat:Int)):=λj hj=>by
   have:=b4 h3 (j:=j) (u:= .int .u8 (bs[j].toNat:Int)) (by simp[geG hj])
   rw[b8]
   rw[bx (hbl.block g (aP hg))]
   simpa using this
  have:=run_convert_bytes_back (P:=P) w' S T e ⟨g,0,none⟩ cap bs hS he8 hT hc
  simp[execOp,h2,this]
theorem pH{T kt et:TypeId}{x:Operand}{id cl:Nat}{es:List (Value×Nat)}{xs:List AV}{c:Call}(hT:P.underlying T=some (.map kt et))(hc:c=⟨.builtin .len, #[x], #[T]⟩)(hx:opv env x=some (.mp id))(hi:st[id]? =some (.mb es xs cl)):
  Yields P env st ⟨dst, .call c,ty,pos,after,guard⟩ (.d (.v (.int .i64 es.length))):=λm φ a w hs he=>by
 obtain⟨b,h1,h2⟩:=d1 he hx
 obtain⟨b',hbb,h0,l,g1,g2,g3⟩:=hs.obj id _ _ hi h1
 simp only[Cz.blk.injEq] at hbb
 subst hbb
 have hlen:es.length=l.length:=by rw[←g2,List.length_map]
 refine⟨_,RAv,λw' hb=>?_⟩
 subst hc
 have e1:w'.heap[b]? =some (.map ⟨l⟩ cl):=by rw[hb.block b (aP g1)];exact g1
 have f1:(getObj b).run P w'= .ok (.map ⟨l⟩ cl) w':=by simp[getObj,Sem.run,e1]
 simp[execOp,resolve,invoke,builtin,Builtin.len_,h2,run_underlying hT,f1,goInt,hlen]
end
theorem tz{m φ w}{st:List AO}{id b cl cl':Nat}{es es':List (Value×Nat)}{xs xs':List AV}{l:List MapEntry}(hs:SR m φ st w)(hi:st[id]? =some (.mb es xs cl))(hb:m[id]? =some (.blk b))(hkeys:l.map (λe=>(e.key,e.born))=es')(hv:RAs m φ w xs' (l.map (·.val))):
  Ev m φ w m φ { w with heap:=w.heap.setIfInBounds b (.map ⟨l⟩ cl') }∧SR m φ (st.set id (.mb es' xs' cl')) { w with heap:=w.heap.setIfInBounds b (.map ⟨l⟩ cl') }:=by
 obtain⟨b',hbb,h0,l0,h1,h2,h3⟩:=hs.obj id _ _ hi hb
 simp only[Cz.blk.injEq] at hbb
 subst hbb
 have hlt:=aP h1
 have hne:∀b2,b2≠b→(w.heap.setIfInBounds b (.map ⟨l⟩ cl'))[b2]? =w.heap[b2]? :=λb2 hn=>by simp[Ne.symm hn]
 have hF:Fz φ w φ { w with heap:=w.heap.setIfInBounds b (.map ⟨l⟩ cl') }:=λb2 off c g1 g2=>⟨g1,by
  have hn:b2≠b:=λe=>by subst e;omega
  rw[bv (w':={ w with heap:=w.heap.setIfInBounds b (.map ⟨l⟩ cl') }) (hne b2 hn)];exact g2⟩
 have hset:m.set id (.blk b)=m:=by
  apply List.ext_getElem?
  intro i
  by_cases hii:id=i
  ·subst hii;rw[List.getElem?_set_self (giS.1 hb).1,hb]
  ·rw[List.getElem?_set_ne hii]
 have:=eg (w':={ w with heap:=w.heap.setIfInBounds b (.map ⟨l⟩ cl') }) (φ':=φ) (o':= .mb es' xs' cl') (c':= .blk b) hs hi rfl hb rfl rfl rfl rfl sM (λb2 hb2 hn=>⟨hne b2 (λe=>hn (by rw[e];rfl)),rfl⟩) hF (λb2 hb2=>hs.lt b2 (by simpa using hb2)) (λb2 hb2=> .inl hb2)
  (by rw[hset];exact⟨b,rfl,h0,l,by simp[hlt],hkeys,RAs.mono (Pre.refl m) hF _ _ hv⟩)
 rwa [hset] at this
section
variable{P:Program}{env:Env}{st:List AO}{dst:Option Tmp}{ty:TypeId}{pos:String}{after:Array Edge}{guard:Option (Nat×Bool)}
theorem qu{κ:Type}[DecidableEq κ]{dk:Value→Option κ}{kf:κ→Value}(hd:∀v k,dk v=some k→v=kf k){T kt et:TypeId}(hK:KeyX P kt kf)(hT:P.underlying T=some (.map kt et)){es:List (Value×Nat)}{xs:List AV}{cl:Nat}{kv:Value}{uu:AV}{o':AO}
  (h:muG dk es xs cl kv uu=some o'){m φ w}{b:Nat}{val:Value}{l:List MapEntry}(hb:w.heap[b]? =some (.map ⟨l⟩ cl))(q2:l.map (λe=>(e.key,e.born))=es)(q3:RAs m φ w xs (l.map (·.val)))(hu:RA m φ w uu val):
  ∃l' cl' es' xs',o'= .mb es' xs' cl'∧(Instr.mapUpdate T (.map (some b)) kv val).run P w= .ok () { w with heap:=w.heap.setIfInBounds b (.map ⟨l'⟩ cl') }∧l'.map (λe=>(e.key,e.born))=es'∧RAs m φ w xs' (l'.map (·.val)):=by
 unfold muG at h
 split at h
 ·rename_i k L hk hL
  have e1:=hd _ _ hk
  subst e1
  have hkeys:l.map (·.key)=L.map kf:=by rw[←iS hd hL,←q2,List.map_map];rfl
  have hf:=hK.find k L l w hkeys
  split at h
  ·rename_i j hj
   obtain rfl:=inS h
   have hLj:=nT hj
   have hlj:(l.map (·.key))[j]? =some (kf k):=by rw[hkeys,List.getElem?_map,hLj];rfl
   rw[List.getElem?_map,Option.map_eq_some_iff] at hlj
   obtain⟨e,he,hek⟩:=hlj
   rw[hj,bnS,he,Option.map_some] at hf
   refine⟨l.modify j (λe'=>{ e' with key:=kf k,val:=val }),cl,es,_,rfl,?_,?_,?_⟩
   ·simp[Instr.mapUpdate,run_underlying hT,MapKept.run_getObj_map hb,hK.chk,hf,he,hek,hK.stays,MapKept.run_setObj_map _ hb,Result.andThen]
   ·rw[←q2]
    apply List.ext_getElem?
    intro i
    rw[List.getElem?_map,List.getElem?_map,List.getElem?_modify]
    by_cases hij:j=i
    ·subst hij;simp[he,hek]
    ·simp[hij]
   ·have:(l.modify j (λe'=>{ e' with key:=kf k,val:=val })).map (·.val)=(l.map (·.val)).set j val:=by
     apply List.ext_getElem?
     intro i
     rw[List.getElem?_map,List.getElem?_modify,List.getElem?_set]
     by_cases hij:j=i
     ·subst hij;simp[he,(giS.1 he).1]
     ·simp[hij]
    rw[this]
    exact gd q3 hu
  ·rename_i hj
   obtain rfl:=inS h
   rw[hj,Option.bind_none] at hf
   refine⟨l++ [⟨kf k,val,cl⟩],cl+1,_,_,rfl,?_,by simp[q2],by rw[List.map_append];exact ak q3 (au hu aR)⟩
   simp[Instr.mapUpdate,run_underlying hT,MapKept.run_getObj_map hb,hK.chk,hf,MapKept.run_setObj_map _ hb,Result.andThen]
 ·cases h
theorem qt{T:TypeId}{x ki v:Operand}{o:Oper}{r:AV}{st':List AO}(ho:o=⟨dst, .insert T x ki v,ty,pos,after,guard⟩∨o=⟨dst, .mapUpdate T x ki v,ty,pos,after,guard⟩)(h:muX P env st T x ki v=some (r,st')):Does P env st o r st':=λm φ a w hs he=>by
 unfold muX at h
 split at h
 ·rename_i kt et id kv uu hT hx hk hv
  obtain⟨ka,hk1,hk2⟩:=aO hk
  have hkv:a.eval ki=kv:=nQ hk2 (af he hk1)
  split at h
  ·rename_i es xs cl hst
   obtain⟨b,h1,h2⟩:=d1 he hx
   obtain⟨b',hbb,h0,l,g1,g2,g3⟩:=hs.obj id _ _ hst h1
   simp only[Cz.blk.injEq] at hbb
   subst hbb
   have hu:=af he hv
   split at h
   ·rename_i o' ho'
    simp only[aa,Prod.mk.injEq] at h
    obtain⟨rfl,rfl⟩:=h
    have key:∃l' cl' es' xs',o'= .mb es' xs' cl'∧(Instr.mapUpdate T (.map (some b)) kv (a.eval v)).run P w= .ok () { w with heap:=w.heap.setIfInBounds b (.map ⟨l'⟩ cl') }∧l'.map (λe=>(e.key,e.born))=es'∧RAs m φ w xs' (l'.map (·.val)):=by
     split at ho'
     ·rename_i hd;exact qu (λ_ _=>rf) (nS hd) hT ho' g1 g2 g3 hu
     ·rename_i hd;exact qu (λ_ _=>re) (nR hd) hT ho' g1 g2 g3 hu
     ·cases ho'
    obtain⟨l',cl',es',xs',rfl,k1,k2,k3⟩:=key
    obtain⟨p1,p2⟩:=tz (cl':=cl') hs hst h1 k2 k3
    refine⟨undef,_,m,φ, .inr ⟨?_,rfl⟩,p1,p2,RAv⟩
    rcases ho with rfl|rfl<;>simp[execOp,h2,hkv,k1]
   ·cases h
  ·cases h
 ·cases h
theorem qv{T:TypeId}:DoesB P env st ⟨dst, .makeMap T none,ty,pos,after,guard⟩ (.mp st.length) (st++ [.mb [] [] 0]):=λm φ a w hs he=>by
 have hF:=Fz.alloc hs (.map #[] 0)
 have hk:∀b,b<w.heap.size→(w.alloc (.map #[] 0)).heap[b]? =w.heap[b]? :=λb hb=>aw hb
 have hnew:∀b,(Cz.blk w.heap.size).has b→w.heap.size≤b:=λb hb=>by simp only[Cz.has] at hb;omega
 refine⟨.map (some w.heap.size),w.alloc (.map #[] 0),m++ [.blk w.heap.size],φ,rfl,Ev.push hs hF hk sM rfl rfl rfl hnew,SR.push hs hF hk sM ?_ hnew,?_,(Below.refl _ _).alloc (Nat.le_refl _) _⟩
 ·exact⟨w.heap.size,rfl,hs.lt _ (Nat.le_refl _),[],heap_alloc_new w _,rfl,aR⟩
 ·simp only[RA];exact⟨_,by rw[←hs.len];simp,rfl⟩
theorem vi{T:TypeId}{x:Operand}{r:AV}{st':List AO}(h:rgX P env st T x=some (r,st')):Does P env st ⟨dst, .range T x,ty,pos,after,guard⟩ r st':=λm φ a w hs he=>by
 have hnew:∀b,(Cz.blk w.heap.size).has b→w.heap.size≤b:=λb hb=>by simp only[Cz.has] at hb;omega
 unfold rgX at h
 split at h
 ·rename_i kt et id hT hx
  split at h
  ·rename_i es xs cl hst
   simp only[aa,Prod.mk.injEq] at h
   obtain⟨rfl,rfl⟩:=h
   have hra:=af he hx
   obtain⟨b,h1,h2⟩:=d1 he hx
   obtain⟨b',hbb,h0,l,g1,g2,g3⟩:=hs.obj id _ _ hst h1
   simp only[Cz.blk.injEq] at hbb
   subst hbb
   have hF:=Fz.alloc hs (.mapIter (some b) cl #[] cl)
   have hk:∀c,c<w.heap.size→(w.alloc (.mapIter (some b) cl #[] cl)).heap[c]? =w.heap[c]? :=λc hc=>aw hc
   rw[h2] at hra
   refine⟨.pointer (some ⟨w.heap.size,0,none⟩),w.alloc (.mapIter (some b) cl #[] cl),m++ [.blk w.heap.size],φ, .inl ?_,Ev.push hs hF hk sM rfl rfl rfl hnew,SR.push hs hF hk sM ⟨_,rfl,hs.lt _ (Nat.le_refl _),some b,heap_alloc_new w _,RA.mono (Pre.append m _) hF _ _ hra⟩ hnew,?_⟩
   ·simp[execOp,h2,Instr.range,run_underlying hT,MapKept.run_getObj_map g1]
   ·simp only[RA];exact⟨_,by rw[←hs.len];simp,rfl⟩
  ·cases h
 ·rename_i kt et hT hx
  simp only[aa,Prod.mk.injEq] at h
  obtain⟨rfl,rfl⟩:=h
  have h2:=ah he hx
  have hF:=Fz.alloc hs (.mapIter none 0 #[] 0)
  have hk:∀c,c<w.heap.size→(w.alloc (.mapIter none 0 #[] 0)).heap[c]? =w.heap[c]? :=λc hc=>aw hc
  refine⟨.pointer (some ⟨w.heap.size,0,none⟩),w.alloc (.mapIter none 0 #[] 0),m++ [.blk w.heap.size],φ, .inl ?_,Ev.push hs hF hk sM rfl rfl rfl hnew,SR.push hs hF hk sM ⟨_,rfl,hs.lt _ (Nat.le_refl _),none,heap_alloc_new w _,RAv⟩ hnew,?_⟩
  ·simp[execOp,h2,Instr.range,run_underlying hT]
  ·simp only[RA];exact⟨_,by rw[←hs.len];simp,rfl⟩
 ·cases h
theorem jd{s:Nat}:∀{es:List (Value×Nat)}{l:List MapEntry}{j:Nat},l.map (λe=>(e.key,e.born))=es→ot es s=some j→∃e,l[j]? =some e∧l.find? (·.born==s)=some e
 |[],l,j,_,h=>by cases h
 |p::es,[],j,hl,h=>by simp at hl
 |p::es,e::l,j,hl,h=>by
  simp only[List.map_cons,List.cons.injEq] at hl
  obtain⟨rfl,hl⟩:=hl
  unfold ot at h
  cases hb:Nat.beq e.born s with
  |true=>
   rw[hb] at h
   obtain rfl:=inS h
   refine⟨e,rfl,?_⟩
   have:=nbE hb
   rw[List.find?_cons_of_pos (by simp[this])]
  |false=>
   rw[hb,cdF] at h
   split at h
   ·rename_i i hi
    obtain rfl:=inS h
    obtain⟨e',h1,h2⟩:=jd hl hi
    refine⟨e',by simpa using h1,?_⟩
    rw[List.find?_cons_of_neg (by intro hh;rw[beq_iff_eq] at hh;rw[hh] at hb;simp at hb)]
    exact h2
   ·cases h
theorem vS{x:Operand}{r:AV}(h:enX env st x=some r):Yields P env st ⟨dst, .entry x,ty,pos,after,guard⟩ r:=λm φ a w hs he=>by
 unfold enX at h
 split at h
 ·rename_i iid hx
  split at h
  ·rename_i id since seen stp hit
   split at h
   ·rename_i s es xs cl hseen hmb
    cases hc:Nat.beq cl stp with
    |false=>rw[hc] at h;cases h
    |true=>
     rw[hc,cdT] at h
     have hc:=nbE hc
     subst hc
     split at h
     ·rename_i j hj
      split at h
      ·rename_i p r0 hp hr0
       obtain rfl:=inS h
       obtain⟨b,g1,g2⟩:=dZ he hx
       obtain⟨b',hbb,h0,sb,g3,g4⟩:=hs.obj iid _ _ hit g1
       simp only[Cz.blk.injEq] at hbb
       subst hbb
       simp only[RA] at g4
       obtain⟨mb,g5,g6⟩:=g4
       simp only[Value.map.injEq] at g6
       subst g6
       obtain⟨b2,hb2,q0,l,q1,q2,q3⟩:=hs.obj id _ _ hmb g5
       simp only[Cz.blk.injEq] at hb2
       subst hb2
       obtain⟨e,k1,k2⟩:=jd q2 hj
       have hpe:p=(e.key,e.born):=by
        have:(l.map (λe=>(e.key,e.born)))[j]? =some (e.key,e.born):=by rw[List.getElem?_map,k1];rfl
        rw[q2,hp] at this
        exact inS this
       subst hpe
       obtain⟨v,v1,v2⟩:=aW q3 hr0
       rw[List.getElem?_map,k1,Option.map_some,aa] at v1
       subst v1
       refine⟨.tuple #[e.key,e.val],by simp only[RA];exact⟨_,rfl,au (gf _) (au v2 aR)⟩,λw' hb=>?_⟩
       have e1:w'.heap[b]? =some (.mapIter (some mb) since ⟨seen⟩ cl):=by rw[hb.block b (aP g3)];exact g3
       have e2:w'.heap[mb]? =some (.map ⟨l⟩ cl):=by rw[hb.block mb (aP q1)];exact q1
       have f1:(getObj b).run P w'= .ok (.mapIter (some mb) since ⟨seen⟩ cl) w':=by simp[getObj,Sem.run,e1]
       have f2:(getObj mb).run P w'= .ok (.map ⟨l⟩ cl) w':=by simp[getObj,Sem.run,e2]
       have f3:(⟨seen⟩:Array Nat).back? =some s:=by rw[←hseen];simp[Array.back?,List.getLast?_eq_getElem?]
       have f4:(⟨l⟩:Array MapEntry).find? (·.born==s)=some e:=by rw[←Array.find?_toList];exact k2
       simp[execOp,g2,Instr.entry,f1,f2,f3,f4]
      ·cases h
     ·cases h
   ·cases h
  ·cases h
 ·cases h
end
section
variable{P:Program}{env:Env}{st:List AO}{dst:Option Tmp}{ty:TypeId}{pos:String}{after:Array Edge}{guard:Option (Nat×Bool)}
theorem iq{T n:Nat}{bb:Bool}{x ix:Operand}{id ver off len lo T' k:Nat}{es:List (List AV)}{kk:IntKind}{i:Int}(hT:ai P T=some (n,bb))(hx:opv env x=some (.ow id ver off len lo))(hs:st[id]? =some (.os T' k ver es))(hi:opv env ix=some (.d (.v (.int kk i))))
  (h0:0≤i)(h1:i<len):Yields P env st ⟨dst, .indexAddr T x ix,ty,pos,after,guard⟩ (.pe id ver (off+i.toNat*n)):=λm φ a w hsr he=>by
 obtain⟨y,xs,g1,g2,_,_,_,g5⟩:=dt hsr Piece.ow (af he hx) hs
 rcases g5 with⟨_,_,rfl⟩|⟨b,nn,cap,off',rfl,hv,ho⟩
 ·omega
 ·have ho2:off'=off:=ho.resolve_right oM
  subst ho2
  refine⟨.pointer (some ⟨b,off'+i.toNat*n,none⟩),by simp only[RA];exact⟨_,_,g1,Nat.le_refl _,λ_=>⟨b,_,cap,rfl,rfl⟩⟩,λw' _=>?_⟩
  simp[execOp,hv,ah he hi,bn hT h0 h1]
theorem oO{T n:Nat}{bb:Bool}{x:Operand}{c:Call}(hT:ai P T=some (n,bb))(hc:c=⟨.builtin .cap, #[x], #[T]⟩)(hx:opv env x=some (.d (.v (.slice none 0 0)))):
  Yields P env st ⟨dst, .call c,ty,pos,after,guard⟩ (.d (.v (.int .i64 0))):=λm φ a w hs he=>by
 obtain⟨t,g1,_,_⟩:=aQ hT
 refine⟨_,RAv,λw' _=>?_⟩
 subst hc
 simp[execOp,resolve,invoke,builtin,Builtin.cap_,ah he hx,run_underlying g1,goInt]
theorem mz{T len n:Nat}{bb:Bool}{x:Operand}{id off:Nat}(hT:bL P T=some (len,n,bb))(hx:opv env x=some (.pt id off)):
  Yields P env st ⟨dst, .slice T x none none none,ty,pos,after,guard⟩ (.sr id off len len):=λm φ a w _ he=>by
 have h1:=af he hx
 simp only[RA] at h1
 obtain⟨b,g0,h2⟩:=h1
 obtain⟨t,g1,g2,g3⟩:=bz hT
 refine⟨.slice (some ⟨b,off,none⟩) len len,by simp only[RA];exact⟨b,g0,rfl⟩,λw' _=>?_⟩
 simp[execOp,Instr.sliceAt,run_underlying g1,Instr.slice,h2,Instr.sliceBounds,Instr.sureAddr,ae g2,Addr.add]
theorem oJ{T len n:Nat}{bb:Bool}{x y:Operand}{kk:IntKind}{i:Int}{id off:Nat}(hT:bL P T=some (len,n,bb))(hx:opv env x=some (.pt id off))(hy:opv env y=some (.d (.v (.int kk i))))(h0:0≤i)(h1:i<len):
  Yields P env st ⟨dst, .slice T x (some y) none none,ty,pos,after,guard⟩ (.sr id (off+i.toNat*n) (len - i.toNat) (len - i.toNat)):=λm φ a w _ he=>by
 have hh:=af he hx
 simp only[RA] at hh
 obtain⟨b,g0,h2⟩:=hh
 obtain⟨t,g1,g2,g3⟩:=bz hT
 refine⟨.slice (some ⟨b,off+i.toNat*n,none⟩) (len - i.toNat) (len - i.toNat),by simp only[RA];exact⟨b,g0,rfl⟩,λw' _=>?_⟩
 have hh:=ah he hy
 have e1:i≤(len:Int):=oM
 have e2:¬len=i.toNat:=oM
 by_cases hz:i.toNat*n=0
 ·simp[execOp,Instr.sliceAt,run_underlying g1,Instr.slice,h2,hh,Instr.sliceBounds,Instr.sureAddr,ae g2,Addr.add,asIntOf,h0,e1,Instr.sliceBound,e2,hz]
 ·simp[execOp,Instr.sliceAt,run_underlying g1,Instr.slice,h2,hh,Instr.sliceBounds,Instr.sureAddr,ae g2,Addr.add,asIntOf,h0,e1,Instr.sliceBound,e2,hz]
theorem my{T n:Nat}{bb:Bool}{x:Operand}{lo hi:Option Operand}(hT:ai P T=some (n,bb))(hx:opv env x=some (.d (.v (.slice none 0 0))))(hlo:Bnd env lo 0 0)(hhi:Bnd env hi 0 0):
  Yields P env st ⟨dst, .slice T x lo hi none,ty,pos,after,guard⟩ (.d (.v (.slice none 0 0))):=λm φ a w _ he=>by
 obtain⟨t,g1,g2,_⟩:=aQ hT
 refine⟨_,RAv,λw' _=>?_⟩
 have:=aF (P:=P) he hlo hhi (Nat.le_refl _) (Nat.le_refl 0) w'
 have hv:=ah he hx
 simp_all [execOp,Instr.sliceAt,run_underlying g1,Instr.slice,ae g2]
end
def tH(P:Program)(T:TypeId):Bool:=match P.underlying T with
 |some (.interface _)=>true
 |_=>false
theorem nU{P:Program}{T:TypeId}(h:tH P T=true):P.underlying T=some (.interface (P.methodsAt T)):=by
 unfold tH at h
 split at h
 ·rename_i hu
  rw[hu]
  simp[Program.methodsAt,hu]
 ·cases h
section
variable{P:Program}{env:Env}{st:List AO}{dst:Option Tmp}{ty:TypeId}{pos:String}{after:Array Edge}{guard:Option (Nat×Bool)}
theorem rO{x:Operand}{T T':TypeId}(hT:P.underlying T=some (.interface (P.methodsAt T)))(hx:opv env x=some (.d (.v .nilIface))):Yields P env st ⟨dst, .binOp .neq T x (.const .nilIface) T',ty,pos,after,guard⟩ (.d (.v (.bool false))):=λm φ a w _ he=>by
 have h:=af he hx
 simp only[RA,RD] at h
 refine⟨_,RAv,λw' _=>?_⟩
 have hc:a.eval (.const .nilIface)= .nilIface:=rfl
 simp[execOp,h,hc,eqGuard,run_neq_nil_nil w' T hT]
theorem mx{x:Operand}{t T:TypeId}(hA:p8 P t=true)(hz:ao P t=some [])(hx:opv env x=some (.d (.v .nilIface))):Yields P env st ⟨dst, .typeAssert x T t true,ty,pos,after,guard⟩ (.tu [.d (.ag []), .d (.v (.bool false))]):=λm φ a w _ he=>by
 have h:=af he hx
 simp only[RA,RD] at h
 obtain⟨i,hi⟩:∃i,P.info? t=some i:=by
  unfold ao at hz
  cases hi:P.info? t with
  |none=>simp[hi] at hz
  |some i=>exact⟨i,rfl⟩
 obtain⟨z,hz1,hz2⟩:=bS hz hi
 have hza:z= .agg #[]:=by
  cases z<;>first|(simp[Value.cells] at hz2;done)|(simp only[Value.cells] at hz2;rw[hz2])
 refine⟨.tuple #[z, .bool false],?_,λw' _=>?_⟩
 ·simp only[RA];exact⟨[z, .bool false],rfl,au (by simp only[RA,RD];exact⟨[],hza,by simp[RFs]⟩) (au RAv aR)⟩
 ·unfold p8 at hA
  split at hA
  ·cases hA
  ·rename_i dA hd hu
   cases dA<;>first|exact(hd _ rfl).elim|simp[execOp,h,Instr.typeAssert,run_underlying hu,zeroValue,typeInfo,hi,hz1]
  ·cases hA
end
def qg(P:Program)(T:TypeId):Bool:=match P.underlying T with
 |some (.pointer _)=>true
 |_=>false
theorem r8{P:Program}{T:TypeId}(h:qg P T=true):∃E,P.underlying T=some (.pointer E):=by
 unfold qg at h
 split at h
 ·exact⟨_,by assumption⟩
 ·cases h
def nnX(st:List AO):AV→Option Bool
 | .pt _ _=>some true
 | .pe id ver _=>match st[id]? with
  |some (.os _ _ v _)=>bif Nat.beq v ver then some true else none
  |_=>none
 | .d (.v (.pointer none))=>some false
 |_=>none
def bdX(env:Env)(o:Option Operand)(d:Nat):Option Int:=match o with
 |none=>some d
 |some x=>match opv env x with
  |some (.d (.v (.int _ i)))=>some i
  |_=>none
theorem gE{env:Env}{o:Option Operand}{d:Nat}{i:Int}(h:bdX env o d=some i):BndI env o d i:=by
 cases o with
 |none=>exact(inS h).symm
 |some x=>
  dsimp only[bdX] at h
  split at h
  ·rename_i k j hx
   obtain rfl:=inS h
   exact⟨k,hx⟩
  ·cases h
def owS(P:Program)(env:Env)(st:List AO)(T:TypeId)(lo hi:Option Operand)(xr:AV):Option AV:=match xr with
 | .os id ver=>match st[id]?,ai P T with
  |some (.os _ k v es),some (n,bb)=>bif (lo.isSome|| !bb)&&(Nat.beq v ver&&Nat.beq k n) then(match bdX env lo 0,bdX env hi es.length with
   |some l,some h=>bif decide (0≤l)&&(decide (l≤h)&&decide (h≤es.length)) then some (.ow id ver (0+l.toNat*n) (h.toNat - l.toNat) (0+l.toNat)) else none
   |_,_=>none) else none
  |_,_=>none
 | .ow id ver off len lo0=>match st[id]?,ai P T with
  |some (.os _ k v es),some (n,_)=>bif Nat.beq v ver&&(Nat.beq k n&&Nat.ble (lo0+len) es.length) then(match bdX env lo 0,bdX env hi len with
   |some l,some h=>bif decide (0≤l)&&(decide (l≤h)&&decide (h≤len)) then some (.ow id ver (off+l.toNat*n) (h.toNat - l.toNat) (lo0+l.toNat)) else none
   |_,_=>none) else none
  |_,_=>none
 | .d (.v (.slice none 0 0))=>match ai P T,bdX env lo 0,bdX env hi 0 with
  |some _,some 0,some 0=>some (.d (.v (.slice none 0 0)))
  |_,_,_=>none
 | .pt id off=>match bL P T,lo,hi with
  |some (len,_,_),none,none=>some (.sr id off len len)
  |some (len,n,_),some y,none=>(match opv env y with
   |some (.d (.v (.int _ i)))=>bif decide (0≤i)&&decide (i<len) then some (.sr id (off+i.toNat*n) (len - i.toNat) (len - i.toNat)) else none
   |_=>none)
  |_,_,_=>none
 |_=>none
def xtY(P:Program)(env:Env)(st:List AO):Op→Option AV
 | .binOp .eql T x (.const (.pointer none)) _=>bif qg P T then((opv env x).bind (nnX st)).bind (λb=>some (.d (.v (.bool (!b))))) else none
 | .binOp .neq T x (.const (.pointer none)) _=>bif qg P T then((opv env x).bind (nnX st)).bind (λb=>some (.d (.v (.bool b)))) else none
 | .binOp .eql T x (.const .nilIface) _=>bif tH P T then(match opv env x with
  |some (.d (.v .nilIface))=>some (.d (.v (.bool true)))
  |_=>none) else none
 | .binOp .neq T x (.const .nilIface) _=>bif tH P T then(match opv env x with
  |some (.d (.v .nilIface))=>some (.d (.v (.bool false)))
  |_=>none) else none
 | .binOp .neq T x y _=>match opv env x,opv env y,P.underlying T with
  |some (.d (.v (.bool p))),some (.d (.v (.bool q))),some .bool=>some (.d (.v (.bool (!(p==q)))))
  |_,_,_=>none
 | .indexAddr T x ix=>match opv env x,opv env ix,ai P T with
  |some (.sr id off len _),some (.d (.v (.int _ i))),some (n,_)=>bif decide (0≤i)&&decide (i<len) then some (.pt id (off+i.toNat*n)) else none
  |some (.ow id ver off len _),some (.d (.v (.int _ i))),some (n,_)=>bif decide (0≤i)&&decide (i<len) then(match st[id]? with
   |some (.os _ _ v _)=>bif Nat.beq v ver then some (.pe id ver (off+i.toNat*n)) else none
   |_=>none) else none
  |_,_,_=>none
 | .call c=>match c.callee,c.args.toList,c.argTypes.toList with
  | .builtin .len,[x],[T]=>(match opv env x,ai P T with
   |some (.sr _ _ len _),some _=>some (.d (.v (.int .i64 len)))
   |some (.ow id ver _ len _),some _=>(match st[id]? with
    |some (.os _ _ v _)=>bif Nat.beq v ver then some (.d (.v (.int .i64 len))) else none
    |_=>none)
   |_,_=>none)
  | .builtin .cap,[x],[T]=>(match opv env x,ai P T with
   |some (.d (.v (.slice none 0 0))),some _=>some (.d (.v (.int .i64 0)))
   |_,_=>none)
  |_,_,_=>none
 | .slice T x lo hi none=>(opv env x).bind (owS P env st T lo hi)
 | .typeAssert x _ t true=>match opv env x,ao P t with
  |some (.d (.v .nilIface)),some []=>bif p8 P t then some (.tu [.d (.ag []), .d (.v (.bool false))]) else none
  |_,_=>none
 |_=>none
section
variable{P:Program}{env:Env}{st:List AO}{dst:Option Tmp}{ty:TypeId}{pos:String}{after:Array Edge}{guard:Option (Nat×Bool)}
theorem ff{α:Type}{c:Bool}{a:Option α}{r:α}(h:(bif c then a else none)=some r):c=true∧a=some r:=by
 cases c
 ·cases h
 ·exact⟨rfl,h⟩
theorem qp{T T':TypeId}{x:Operand}{b:Bool}{xr:AV}(hT:qg P T=true)(hx:opv env x=some xr)(h:nnX st xr=some b):
  Yields P env st ⟨dst, .binOp .eql T x (.const (.pointer none)) T',ty,pos,after,guard⟩ (.d (.v (.bool (!b))))∧Yields P env st ⟨dst, .binOp .neq T x (.const (.pointer none)) T',ty,pos,after,guard⟩ (.d (.v (.bool b))):=by
 obtain⟨E,hT⟩:=r8 hT
 unfold nnX at h
 split at h
 ·obtain rfl:=inS h
  exact⟨uM hT hx,uH hT hx⟩
 ·split at h
  ·rename_i hs
   obtain⟨hb,h⟩:=ff h
   obtain rfl:=inS h
   have:=nbE hb
   subst this
   exact⟨uN hT hx hs,uI hT hx hs⟩
  ·cases h
 ·obtain rfl:=inS h
  exact⟨uO hT hx,uJ hT hx⟩
 ·cases h
theorem vp{T:TypeId}{x:Operand}{lo hi:Option Operand}{xr r:AV}(hx:opv env x=some xr)(h:owS P env st T lo hi xr=some r):Yields P env st ⟨dst, .slice T x lo hi none,ty,pos,after,guard⟩ r:=by
 unfold owS at h
 split at h
 ·split at h
  ·rename_i hs hT
   obtain⟨hb,h⟩:=ff h
   simp only[Bool.and_eq_true] at hb
   obtain⟨_,hb1,hb2⟩:=hb
   have e1:=nbE hb1
   have e2:=nbE hb2
   subst e1;subst e2
   split at h
   ·rename_i hl hh
    obtain⟨hc,h⟩:=ff h
    simp only[Bool.and_eq_true,decide_eq_true_eq] at hc
    obtain rfl:=inS h
    exact im hT hx (Piece.os hs rfl) hs (gE hl) (gE hh) hc.1 hc.2.1 hc.2.2 oM
   ·cases h
  ·cases h
 ·split at h
  ·rename_i hs hT
   obtain⟨hb,h⟩:=ff h
   simp only[Bool.and_eq_true] at hb
   obtain⟨hb1,hb2,hb3⟩:=hb
   have e1:=nbE hb1
   have e2:=nbE hb2
   subst e1;subst e2
   split at h
   ·rename_i hl hh
    obtain⟨hc,h⟩:=ff h
    simp only[Bool.and_eq_true,decide_eq_true_eq] at hc
    obtain rfl:=inS h
    exact im hT hx Piece.ow hs (gE hl) (gE hh) hc.1 hc.2.1 hc.2.2 (nbT hb3)
   ·cases h
  ·cases h
 ·split at h
  ·rename_i hT hl hh
   obtain rfl:=inS h
   exact my hT hx ((gE hl).bnd (Int.le_refl 0)) ((gE hh).bnd (Int.le_refl 0))
  ·cases h
 ·split at h
  ·rename_i hT
   obtain rfl:=inS h
   exact mz hT hx
  ·rename_i hT
   split at h
   ·rename_i hy
    obtain⟨hc,h⟩:=ff h
    simp only[Bool.and_eq_true,decide_eq_true_eq] at hc
    obtain rfl:=inS h
    exact oJ hT hx hy hc.1 hc.2
   ·cases h
  ·cases h
 ·cases h
theorem uQ{op:Op}{r:AV}(h:xtY P env st op=some r):Yields P env st ⟨dst,op,ty,pos,after,guard⟩ r:=by
 unfold xtY at h
 split at h
 ·obtain⟨hT,h⟩:=ff h
  obtain⟨b,hb,h⟩:=Option.bind_eq_some_iff.1 h
  obtain⟨xr,hx,hb⟩:=Option.bind_eq_some_iff.1 hb
  obtain rfl:=inS h
  exact(qp hT hx hb).1
 ·obtain⟨hT,h⟩:=ff h
  obtain⟨b,hb,h⟩:=Option.bind_eq_some_iff.1 h
  obtain⟨xr,hx,hb⟩:=Option.bind_eq_some_iff.1 hb
  obtain rfl:=inS h
  exact(qp hT hx hb).2
 ·obtain⟨hT,h⟩:=ff h
  split at h
  ·rename_i hx
   obtain rfl:=inS h
   exact rT (nU hT) hx
  ·cases h
 ·obtain⟨hT,h⟩:=ff h
  split at h
  ·rename_i hx
   obtain rfl:=inS h
   exact rO (nU hT) hx
  ·cases h
 ·split at h
  ·rename_i hx hy hT
   obtain rfl:=inS h
   exact y_neb hT hx hy
  ·cases h
 ·split at h
  ·rename_i hx hi hT
   obtain⟨hc,h⟩:=ff h
   simp only[Bool.and_eq_true,decide_eq_true_eq] at hc
   obtain rfl:=inS h
   exact j8 hT hx hi hc.1 hc.2
  ·rename_i hx hi hT
   obtain⟨hc,h⟩:=ff h
   simp only[Bool.and_eq_true,decide_eq_true_eq] at hc
   split at h
   ·rename_i hs
    obtain⟨hb,h⟩:=ff h
    obtain rfl:=inS h
    have e:=nbE hb
    subst e
    exact iq hT hx hs hi hc.1 hc.2
   ·cases h
  ·cases h
 ·rename_i c
  split at h
  ·rename_i x T hcl ha ht
   have hc:c=⟨.builtin .len, #[x], #[T]⟩:=by
    obtain⟨ce,ar,at_⟩:=c
    simp only at hcl ha ht
    subst hcl
    congr
    ·exact Array.toList_inj.1 ha
    ·exact Array.toList_inj.1 ht
   split at h
   ·rename_i hx hT
    obtain rfl:=inS h
    exact pF hT hc hx
   ·rename_i hx hT
    split at h
    ·rename_i hs
     obtain⟨hb,h⟩:=ff h
     obtain rfl:=inS h
     have e:=nbE hb
     subst e
     exact pG hT hc hx hs
    ·cases h
   ·cases h
  ·rename_i x T hcl ha ht
   have hc:c=⟨.builtin .cap, #[x], #[T]⟩:=by
    obtain⟨ce,ar,at_⟩:=c
    simp only at hcl ha ht
    subst hcl
    congr
    ·exact Array.toList_inj.1 ha
    ·exact Array.toList_inj.1 ht
   split at h
   ·rename_i hx hT
    obtain rfl:=inS h
    exact oO hT hc hx
   ·cases h
  ·cases h
 ·obtain⟨xr,hx,h⟩:=Option.bind_eq_some_iff.1 h
  exact vp hx h
 ·split at h
  ·rename_i hx hz
   obtain⟨hA,h⟩:=ff h
   obtain rfl:=inS h
   exact mx hA hz hx
  ·cases h
 ·cases h
end
theorem ay{α:Type}{c:Bool}{a:Option α}{r:α}(h:(bif c then a else none)=some r):c=true∧a=some r:=by
 cases c
 ·cases h
 ·exact⟨rfl,h⟩
theorem bifN{α:Type}{c:Bool}{a:Option α}{r:α}(h:(bif c then none else a)=some r):c=false∧a=some r:=by
 cases c
 ·exact⟨rfl,h⟩
 ·cases h
def aL{α:Type}{β:Type}:List α→(List α→β)→β
 |[],k=>k []
 |x::l,k=>aL l λl'=>k (x::l')
theorem aU{α:Type}{β:Type}:∀{l:List α}{k:List α→β},aL l k=k l
 |[],_=>rfl
 |x::l,k=>by unfold aL;rw[aU]
def ez{α:Type}{β:Type}:List (List α)→(List (List α)→β)→β
 |[],k=>k []
 |x::l,k=>aL x λx'=>ez l λl'=>k (x'::l')
theorem e9{α:Type}{β:Type}:∀{l:List (List α)}{k:List (List α)→β},ez l k=k l
 |[],_=>rfl
 |x::l,k=>by unfold ez;rw[aU,e9]
def gy:AV→Option (IntKind×Int)
 | .d (.v (.int k i))=>some (k,i)
 |_=>none
theorem bN{x:AV}{k:IntKind}{i:Int}(h:gy x=some (k,i)):x= .d (.v (.int k i)):=by
 unfold gy at h
 split at h
 ·simp only[aa,Prod.mk.injEq] at h
  rw[h.1,h.2]
 ·cases h
def osA(st:List AO)(id ver:Nat):Option (Nat×Nat×List (List AV)):=match st[id]? with
 |some (.os T k v es)=>bif Nat.beq v ver then some (T,k,es) else none
 |_=>none
theorem b5{st:List AO}{id ver T k:Nat}{es:List (List AV)}(h:osA st id ver=some (T,k,es)):st[id]? =some (.os T k ver es):=by
 unfold osA at h
 split at h
 ·rename_i T' k' v es' hs
  cases hb:Nat.beq v ver with
  |false=>rw[hb] at h;cases h
  |true=>
   rw[hb] at h
   simp only[cdT,aa,Prod.mk.injEq] at h
   obtain⟨rfl,rfl,rfl⟩:=h
   rw[hs,nbE hb]
 ·cases h
def ixS(P:Program)(st:List AO)(T:Nat)(xr:AV)(i:Int):Option AV:=
 match ai P T with
 |some (n,_)=>bif decide (0≤i) then(match xr with
  | .d (.sl es)=>(match es[i.toNat]? with
   |some cs=>bif Nat.beq cs.length n then some (.d (.pc cs)) else none
   |none=>none)
  | .os id ver=>(match osA st id ver with
   |some (_,_,es)=>bif decide (i<es.length) then some (.pe id ver (i.toNat*n)) else none
   |none=>none)
  |_=>none) else none
 |none=>none
def qB(P:Program)(st:List AO)(T:Nat):AV→Option AV
 | .pe id ver off=>match osA st id ver with
  |some (_,_,es)=>(match aq P T,aM P T with
   |some false,_=>es.flatten[off]?
   |some true,some n=>bif decide (off+n≤es.flatten.length) then some (.ag ((es.flatten.drop off).take n)) else none
   |_,_=>none)
  |none=>none
 |_=>none
def faX(P:Program)(st:List AO)(S i:Nat):AV→Option AV
 | .pe id ver off=>match osA st id ver,bH P S i with
  |some _,some (fo,_+1,_)=>some (.pe id ver (off+fo))
  |_,_=>none
 |_=>none
def ncX(st:List AO):AV→Option AV
 | .pe id ver off=>match osA st id ver with
  |some _=>some (.pe id ver off)
  |none=>none
 |_=>none
def lenX(P:Program)(st:List AO)(T:Nat):AV→Option AV
 | .d (.sl es)=>match ai P T with
  |some _=>some (.d (.v (.int .i64 es.length)))
  |none=>none
 | .os id ver=>match ai P T,osA st id ver with
  |some _,some (_,_,es)=>some (.d (.v (.int .i64 es.length)))
  |_,_=>none
 | .d (.v (.string s))=>match P.underlying T with
  |some .string=>some (.d (.v (.int .i64 s.size)))
  |_=>none
 | .d (.v (.slice none 0 0))=>match ai P T with
  |some _=>some (.d (.v (.int .i64 0)))
  |none=>none
 | .mp id=>match P.underlying T,st[id]? with
  |some (.map _ _),some (.mb es _ _)=>some (.d (.v (.int .i64 es.length)))
  |_,_=>none
 |_=>none
def bitX(k:IntKind)(p q:Int):BinOp→Option AV
 | .and=>some (.d (.v (.int k (k.wrap (BitVec.ofInt k.bits p&&&BitVec.ofInt k.bits q).toNat))))
 | .or=>some (.d (.v (.int k (k.wrap (BitVec.ofInt k.bits p|||BitVec.ofInt k.bits q).toNat))))
 | .xor=>some (.d (.v (.int k (k.wrap (BitVec.ofInt k.bits p^^^BitVec.ofInt k.bits q).toNat))))
 | .quo=>bif decide (q=0) then none else some (.d (.v (.int k (k.wrap (p.tdiv q)))))
 | .rem=>bif decide (q=0) then none else some (.d (.v (.int k (p.tmod q))))
 |_=>none
def shX(k:IntKind)(p q:Int):BinOp→Option AV
 | .shr=>bif decide (0≤q) then some (.d (.v (.int k (p.fdiv (2^min q.toNat k.bits))))) else none
 | .shl=>bif decide (0≤q) then some (.d (.v (.int k (k.wrap (p*2^min q.toNat k.bits))))) else none
 |_=>none
def ro(env:Env)(o:Option Operand)(d:Nat):Option Nat:=match o with
 |none=>some d
 |some x=>match(opv env x).bind gy with
  |some (_,i)=>bif decide (0≤i) then some i.toNat else none
  |none=>none
theorem kN{env:Env}{o:Option Operand}{d n:Nat}(h:ro env o d=some n):Bnd env o d n:=by
 cases o with
 |none=>exact(inS h).symm
 |some x=>
  dsimp only[ro] at h
  split at h
  ·rename_i k i hx
   obtain⟨z,h1,h2⟩:=aO hx
   rw[bN h2] at h1
   by_cases hi:0≤i
   ·rw[dcT hi] at h
    exact⟨k,i,h1,hi,inS h⟩
   ·rw[dcF hi] at h;cases h
  ·cases h
def qc(P:Program)(env:Env)(T:Nat)(lo hi:Option Operand):AV→Option AV
 | .d (.sl es)=>match ai P T,ro env lo 0,ro env hi es.length with
  |some (n,_),some l,some h=>bif decide (l≤h)&&(decide (h≤es.length)&&es.all λe=>Nat.beq e.length n) then some (.d (.sl ((es.drop l).take (h - l)))) else none
  |_,_,_=>none
 |_=>none
def oq(P:Program)(env:Env)(T:Nat)(parts:Array (Nat×Operand)):Option AV:=
 match bL P T,ao P T,aX env (parts.toList.map (·.2)) with
 |some (_,n,_),some zs,some xs=>(match fb (λi=>some (i*n,n)) (zs.map λv=> .d (.v v)) (gg parts.toList xs) with
  |some cs=>some (.ag cs)
  |none=>none)
 |_,_,_=>none
def rn(P:Program)(env:Env)(st:List AO)(T:Nat)(parts:Array (Nat×Operand)):Option AV:=
 match bw P T,ao P T,aX env (parts.toList.map (·.2)) with
 |some pl,some zs,some xs=>(match eA st (λi=>pl[i]?) (zs.map λv=> .d (.v v)) (gg parts.toList xs) with
  |some cs=>some (.ag cs)
  |none=>none)
 |_,_,_=>oq P env T parts
def vz(P:Program)(st:List AO)(T:Nat):AV→Option AV
 | .d (.v (.slice none 0 0))=>match P.underlying T with
  |some (.slice _)=>some (.d (.v (.bool true)))
  |_=>none
 | .d (.sl (_::_))=>match P.underlying T with
  |some (.slice _)=>some (.d (.v (.bool false)))
  |_=>none
 | .os id ver=>match P.underlying T,osA st id ver with
  |some (.slice _),some (_,_,_::_)=>some (.d (.v (.bool false)))
  |_,_=>none
 |_=>none
def eqX(P:Program)(T:Nat):Option (List Value)→Option (List Value)→BinOp→Option AV
 |some xs,some ys, .eql=>(match eZ P T with
  |some ks=>bif aS ks xs&&aS ks ys then some (.d (.v (.bool (eqL xs ys)))) else none
  |none=>none)
 |some xs,some ys, .neq=>(match eZ P T with
  |some ks=>bif aS ks xs&&aS ks ys then some (.d (.v (.bool (!eqL xs ys)))) else none
  |none=>none)
 |_,_,_=>none
def vQ(P:Program)(T:Nat):Option AV→Option AV→BinOp→Option AV
 |some (.d (.v (.bool p))),some (.d (.v (.bool q))), .eql=>(match P.underlying T with
  |some .bool=>some (.d (.v (.bool (p==q))))
  |_=>none)
 |some (.d (.v (.string p))),some (.d (.v (.string q))), .eql=>some (.d (.v (.bool (p.data.toList==q.data.toList))))
 |_,_,_=>none
def ixA(P:Program)(st:List AO)(T:Nat)(xr:AV)(i:Int):Option AV:=match bL P T with
 |some (len,n,_)=>bif decide (0≤i)&&decide (i<len) then(match xr with
  | .pt id off=>some (.pt id (off+i.toNat*n))
  | .d (.pc ps)=>some (.d (.pc (ps.drop (i.toNat*n))))
  | .pe id ver off=>(match osA st id ver with
   |some _=>some (.pe id ver (off+i.toNat*n))
   |none=>none)
  |_=>none) else none
 |none=>none
def ixV(P:Program)(T:Nat)(xr:AV)(i:Int):Option AV:=match bL P T with
 |some (len,n,false)=>bif decide (0≤i)&&decide (i<len) then(match xr with
  | .d (.ag ps)=>(match ps[i.toNat*n]? with
   |some p=>some (.d p)
   |none=>none)
  | .ag ps=>ps[i.toNat*n]?
  |_=>none) else none
 |some (len,n,true)=>bif decide (0≤i)&&decide (i<len) then(match xr with
  | .d (.ag ps)=>some (.d (.ag ((ps.drop (i.toNat*n)).take n)))
  | .ag ps=>some (.ag ((ps.drop (i.toNat*n)).take n))
  |_=>none) else none
 |none=>none
def b2X(P:Program)(env:Env)(st:List AO)(S T:TypeId)(x:Operand):Option AV:=match opv env x,P.underlying S,P.underlying T with
 |some (.os id ver),some (.slice e),some .string=>(match osA st id ver,P.underlying e with
  |some (_,_,es),some (.int .u8)=>(match byV es with
   |some bs=>some (.d (.v (.string ⟨bs.toArray⟩)))
   |none=>none)
  |_,_=>none)
 |_,_,_=>none
def vJ(P:Program)(t:Ty)(env:Env)(st:List AO)(op:Op):Option AV:=
 match ft t env st op with
 |some r=>some r
 |none=>match op with
  | .indexAddr T x ix=>(match opv env x,(opv env ix).bind gy with
   |some xr,some (_,i)=>(match ixS P st T xr i with
    |some r=>some r
    |none=>ixA P st T xr i)
   |_,_=>none)
  | .load T x=>(opv env x).bind (qB P st T)
  | .fieldAddr S x i=>(opv env x).bind (faX P st S i)
  | .nilCheck x=>(opv env x).bind (ncX st)
  | .call c=>(match c.callee,c.args.toList,c.argTypes.toList with
   | .builtin .len,[x],[T]=>(opv env x).bind (lenX P st T)
   | .builtin .max,[x,y],[_,_]=>(match(opv env x).bind gy,(opv env y).bind gy with
    |some (k,p),some (k',q)=>bif decide (k=k') then some (.d (.v (.int k (if q>p then q else p)))) else none
    |_,_=>none)
   | .builtin .min,[x,y],[_,_]=>(match(opv env x).bind gy,(opv env y).bind gy with
    |some (k,p),some (k',q)=>bif decide (k=k') then some (.d (.v (.int k (if q<p then q else p)))) else none
    |_,_=>none)
   |_,_,_=>none)
  | .binOp .eql T x (.const (.slice none 0 0)) _=>(opv env x).bind (vz P st T)
  | .binOp b T x y _=>(match(opv env x).bind gy,(opv env y).bind gy with
   |some (k,p),some (k',q)=>(match shX k p q b with
    |some r=>some r
    |none=>bif decide (k=k') then bitX k p q b else none)
   |_,_=>(match eqX P T ((opv env x).bind agV) ((opv env y).bind agV) b with
    |some r=>some r
    |none=>vQ P T (opv env x) (opv env y) b))
  | .slice T x lo hi none=>(opv env x).bind (qc P env T lo hi)
  | .convert S T x=>b2X P env st S T x
  | .lookup T x ki c=>lkX P env st T x ki c
  | .entry x=>enX env st x
  | .build T parts=>rn P env st T parts
  | .index T x ix=>(match opv env x,(opv env ix).bind gy,P.underlying T with
   |some (.d (.v (.string s))),some (_,i),some .string=>(match fy s i with
    |some r=>some (.d (.v (.int .u8 r)))
    |none=>none)
   |some xr,some (_,i),_=>ixV P T xr i
   |_,_,_=>none)
  |_=>none
section
variable{P:Program}{t:Ty}{env:Env}{st:List AO}{dst:Option Tmp}{ty:TypeId}{pos:String}{after:Array Edge}{guard:Option (Nat×Bool)}
theorem lb{x:Operand}{id ver off Te k:Nat}{es:List (List AV)}(hx:opv env x=some (.pe id ver off))(hi:st[id]? =some (.os Te k ver es)):Yields P env st ⟨dst, .nilCheck x,ty,pos,after,guard⟩ (.pe id ver off):=λm φ a w hs he=>by
 obtain⟨p,h2⟩:=mO hs he hx hi
 refine⟨_,af he hx,λw' _=>?_⟩
 simp[execOp,h2]
theorem vx{T:Nat}{x ix:Operand}{xr r:AV}{k:IntKind}{i:Int}(hx:opv env x=some xr)(hi:opv env ix=some (.d (.v (.int k i))))(h:ixS P st T xr i=some r):Yields P env st ⟨dst, .indexAddr T x ix,ty,pos,after,guard⟩ r:=by
 unfold ixS at h
 split at h
 ·rename_i n bb hT
  by_cases h0:0≤i
  ·rw[dcT h0,cdT] at h
   split at h
   ·rename_i es
    split at h
    ·rename_i cs hc
     cases hb:Nat.beq cs.length n with
     |false=>rw[hb] at h;cases h
     |true=>
      rw[hb] at h
      obtain rfl:=inS h
      exact aG hT hx (Le.refl _) hi h0 hc (nbE hb)
    ·cases h
   ·rename_i id ver
    split at h
    ·rename_i T' k' es ho
     by_cases h1:i<es.length
     ·rw[dcT h1] at h
      obtain rfl:=inS h
      exact aC hT hx (b5 ho) hi h0 h1
     ·rw[dcF h1] at h;cases h
    ·cases h
   ·cases h
  ·rw[dcF h0] at h;cases h
 ·cases h
theorem qA{T:Nat}{x:Operand}{xr r:AV}(hx:opv env x=some xr)(h:qB P st T xr=some r):Yields P env st ⟨dst, .load T x,ty,pos,after,guard⟩ r:=by
 unfold qB at h
 split at h
 ·split at h
  ·rename_i ho
   split at h
   ·rename_i ha;exact bD hx (b5 ho) ha h
   ·rename_i n ha hn
    obtain⟨hl,h⟩:=ay h
    obtain rfl:=inS h
    exact mC hx (b5 ho) ha hn (of_decide_eq_true hl)
   ·cases h
  ·cases h
 ·cases h
theorem j7{T T' E:Nat}{x:Operand}{b:Bool}(hT:P.underlying T=some (.slice E))(h:∀(m:List Cz)(φ:Nat→Nat)(a:Act)(w:World),SR m φ st w→EnvOk m φ w env a→∃ad ll cc,a.eval x= .slice ad ll cc∧ad.isNone=b):
  Yields P env st ⟨dst, .binOp .eql T x (.const (.slice none 0 0)) T',ty,pos,after,guard⟩ (.d (.v (.bool b))):=λm φ a w hs he=>by
 obtain⟨ad,ll,cc,h2,h3⟩:=h m φ a w hs he
 refine⟨.bool b,RAv,λw' _=>?_⟩
 have hc:a.eval (.const (.slice none 0 0))= .slice none 0 0:=rfl
 subst h3
 simp[execOp,h2,hc,eqGuard,binOp,run_equal_slice_nil w' T E ad ll cc hT]
theorem tF{T T':Nat}{x:Operand}{xr r:AV}(hx:opv env x=some xr)(h:vz P st T xr=some r):Yields P env st ⟨dst, .binOp .eql T x (.const (.slice none 0 0)) T',ty,pos,after,guard⟩ r:=by
 unfold vz at h
 split at h
 ·split at h
  ·rename_i hT
   obtain rfl:=inS h
   refine j7 hT λm φ a w hs he=>?_
   have h1:=af he hx
   simp only[RA,RD] at h1
   exact⟨none,0,0,h1,rfl⟩
  ·cases h
 ·rename_i c es
  split at h
  ·rename_i hT
   obtain rfl:=inS h
   refine j7 hT λm φ a w hs he=>?_
   have h1:=af he hx
   simp only[RA] at h1
   obtain⟨ad,ll,cc,h2,h3⟩:=v7 h1
   refine⟨ad,ll,cc,h2,?_⟩
   cases hn:ad.isNone with
   |false=>rfl
   |true=>cases h3 hn
  ·cases h
 ·split at h
  ·rename_i hT ho
   obtain rfl:=inS h
   refine j7 hT λm φ a w hs he=>?_
   obtain⟨y,xs,h1,h2,h3,_⟩:=gu hs he hx (b5 ho)
   rcases h3.2 with⟨rfl,hn⟩|⟨g,cap,cur,rfl,_⟩
   ·simp at hn
   ·exact⟨_,_,_,h2,rfl⟩
  ·cases h
 ·cases h
theorem vR{T T':Nat}{b:BinOp}{x y:Operand}{r:AV}(h:eqX P T ((opv env x).bind agV) ((opv env y).bind agV) b=some r):Yields P env st ⟨dst, .binOp b T x y T',ty,pos,after,guard⟩ r:=by
 unfold eqX at h
 split at h
 ·rename_i xs ys h1 h2
  obtain⟨z,g1,g2⟩:=aO h1
  obtain⟨z',k1,k2⟩:=aO h2
  split at h
  ·rename_i ks hk
   obtain⟨hc,h⟩:=ay h
   obtain rfl:=inS h
   rw[Bool.and_eq_true] at hc
   exact pM hk g1 (jf g2) k1 (jf k2) hc.1 hc.2 rfl
  ·cases h
 ·rename_i xs ys h1 h2
  obtain⟨z,g1,g2⟩:=aO h1
  obtain⟨z',k1,k2⟩:=aO h2
  split at h
  ·rename_i ks hk
   obtain⟨hc,h⟩:=ay h
   obtain rfl:=inS h
   rw[Bool.and_eq_true] at hc
   exact uG hk g1 (jf g2) k1 (jf k2) hc.1 hc.2 rfl
  ·cases h
 ·cases h
theorem tW{T T':Nat}{b:BinOp}{x y:Operand}{r:AV}(h:vQ P T (opv env x) (opv env y) b=some r):Yields P env st ⟨dst, .binOp b T x y T',ty,pos,after,guard⟩ r:=by
 unfold vQ at h
 split at h
 ·rename_i h1 h2
  split at h
  ·rename_i hT
   obtain rfl:=inS h
   exact y_eqb hT h1 h2
  ·cases h
 ·rename_i h1 h2
  rw[←ByteArray.toList_eq,←ByteArray.toList_eq] at h
  obtain rfl:=inS h
  exact um h1 h2
 ·cases h
theorem hG{T len n:Nat}{bb:Bool}{x ix:Operand}{id ver off Te k:Nat}{es:List (List AV)}{kk:IntKind}{i:Int}(hT:bL P T=some (len,n,bb))(hx:opv env x=some (.pe id ver off))(hs0:st[id]? =some (.os Te k ver es))(hi:opv env ix=some (.d (.v (.int kk i))))
  (h0:0≤i)(h1:i<len):Yields P env st ⟨dst, .indexAddr T x ix,ty,pos,after,guard⟩ (.pe id ver (off+i.toNat*n)):=λm φ a w hs he=>by
 have hra:=af he hx
 simp only[RA] at hra
 obtain⟨ver0,y0,g1,g2,g3⟩:=hra
 obtain⟨y,xs,e1,_⟩:=hs.obj id _ _ hs0 g1
 simp only[Cz.tok.injEq] at e1
 obtain⟨rfl,rfl⟩:=e1
 obtain⟨b,len',cap,rfl,hv⟩:=g3 rfl
 exact⟨.pointer (some ⟨b,off+i.toNat*n,none⟩),by simp only[RA];exact⟨_,_,g1,Nat.le_refl _,λ_=>⟨b,_,_,rfl,rfl⟩⟩,λw' _=>by simp[execOp,hv,ah he hi,cB hT h0 h1]⟩
theorem vy{T:Nat}{x ix:Operand}{xr r:AV}{k:IntKind}{i:Int}(hx:opv env x=some xr)(hi:opv env ix=some (.d (.v (.int k i))))(h:ixA P st T xr i=some r):Yields P env st ⟨dst, .indexAddr T x ix,ty,pos,after,guard⟩ r:=by
 unfold ixA at h
 split at h
 ·rename_i len n bb hT
  obtain⟨hc,h⟩:=ay h
  rw[Bool.and_eq_true] at hc
  have h0:=of_decide_eq_true hc.1
  have h1:=of_decide_eq_true hc.2
  split at h
  ·obtain rfl:=inS h;exact j9 hT hx hi h0 h1
  ·obtain rfl:=inS h;exact de hT hx hi h0 h1
  ·split at h
   ·rename_i ho;obtain rfl:=inS h;exact hG hT hx (b5 ho) hi h0 h1
   ·cases h
  ·cases h
 ·cases h
theorem oK{T len n:Nat}{x ix:Operand}{ps:List AV}{kk:IntKind}{i:Int}(hT:bL P T=some (len,n,true))(hx:opv env x=some (.ag ps))(hi:opv env ix=some (.d (.v (.int kk i))))
  (h0:0≤i)(h1:i<len):Yields P env st ⟨dst, .index T x ix,ty,pos,after,guard⟩ (.ag ((ps.drop (i.toNat*n)).take n)):=λm φ a w _ he=>by
 have hra:=af he hx
 simp only[RA] at hra
 obtain⟨cs,h2,h3⟩:=hra
 obtain⟨t,g1,g2,g3⟩:=bz hT
 exact⟨_,by simp only[RA];exact⟨_,rfl,aV n (aZ _ h3)⟩,λw' _=>by simp[execOp,Instr.index,h2,ah he hi,asIntOf,run_underlying g1,h0,h1,ae g2,eh g3 g2]⟩
theorem vw{T:Nat}{x ix:Operand}{xr r:AV}{k:IntKind}{i:Int}(hx:opv env x=some xr)(hi:opv env ix=some (.d (.v (.int k i))))(h:ixV P T xr i=some r):Yields P env st ⟨dst, .index T x ix,ty,pos,after,guard⟩ r:=by
 unfold ixV at h
 split at h
 ·rename_i len n hT
  obtain⟨hc,h⟩:=ay h
  rw[Bool.and_eq_true] at hc
  have h0:=of_decide_eq_true hc.1
  have h1:=of_decide_eq_true hc.2
  split at h
  ·split at h
   ·rename_i hp;obtain rfl:=inS h;exact rR hT hx hi h0 h1 hp
   ·cases h
  ·exact pI hT hx hi h0 h1 h
  ·cases h
 ·rename_i len n hT
  obtain⟨hc,h⟩:=ay h
  rw[Bool.and_eq_true] at hc
  have h0:=of_decide_eq_true hc.1
  have h1:=of_decide_eq_true hc.2
  split at h
  ·obtain rfl:=inS h;exact pJ hT hx hi h0 h1
  ·obtain rfl:=inS h;exact oK hT hx hi h0 h1
  ·cases h
 ·cases h
theorem tO(ht:t.ok P=true){op:Op}{r:AV}(h:vJ P t env st op=some r):Yields P env st ⟨dst,op,ty,pos,after,guard⟩ r:=by
 unfold vJ at h
 split at h
 ·rename_i r' hr
  obtain rfl:=inS h
  exact iy ht hr
 ·split at h
  ·rename_i T x ix
   split at h
   ·rename_i xr k i hx hi
    obtain⟨z,h1,h2⟩:=aO hi
    rw[bN h2] at h1
    split at h
    ·rename_i r1 hr1
     obtain rfl:=inS h
     exact vx hx h1 hr1
    ·exact vy hx h1 h
   ·cases h
  ·obtain⟨z,h1,h2⟩:=aO h
   exact qA h1 h2
  ·obtain⟨z,h1,h2⟩:=aO h
   unfold faX at h2
   split at h2
   ·split at h2
    ·rename_i ho hf
     obtain rfl:=inS h2
     exact ir hf h1 (b5 ho)
    ·cases h2
   ·cases h2
  ·obtain⟨z,h1,h2⟩:=aO h
   unfold ncX at h2
   split at h2
   ·split at h2
    ·rename_i ho
     obtain rfl:=inS h2
     exact lb h1 (b5 ho)
    ·cases h2
   ·cases h2
  ·rename_i c _
   split at h
   ·rename_i x T hc ha hg
    have hcc:c=⟨.builtin .len, #[x], #[T]⟩:=by
     obtain⟨c1,c2,c3⟩:=c
     simp only at hc ha hg
     subst hc
     have e2:c2= #[x]:=by rw[←ha]
     have e3:c3= #[T]:=by rw[←hg]
     rw[e2,e3]
    obtain⟨z,h1,h2⟩:=aO h
    unfold lenX at h2
    split at h2
    ·split at h2
     ·rename_i hT;obtain rfl:=inS h2;exact ip hT hcc h1 (Le.refl _)
     ·cases h2
    ·split at h2
     ·rename_i hT ho;obtain rfl:=inS h2;exact lg hT hcc h1 (b5 ho)
     ·cases h2
    ·split at h2
     ·rename_i hT;obtain rfl:=inS h2;exact cR hT hcc h1
     ·cases h2
    ·split at h2
     ·rename_i hT;obtain rfl:=inS h2;exact ip (es:=[]) hT hcc h1 Le.nil
     ·cases h2
    ·split at h2
     ·rename_i hT ho;obtain rfl:=inS h2;exact pH hT hcc h1 ho
     ·cases h2
    ·cases h2
   ·rename_i x y T1 T2 hc ha hg
    have hcc:c=⟨.builtin .max, #[x,y], #[T1,T2]⟩:=by
     obtain⟨c1,c2,c3⟩:=c
     simp only at hc ha hg
     subst hc
     have e2:c2= #[x,y]:=by rw[←ha]
     have e3:c3= #[T1,T2]:=by rw[←hg]
     rw[e2,e3]
    split at h
    ·rename_i hx hy
     have hk:=of_decide_eq_true (ay h).1
     have h3:=(ay h).2
     clear h
     subst hk
     obtain rfl:=inS h3
     obtain⟨z,h1,h2⟩:=aO hx
     rw[bN h2] at h1
     obtain⟨z',g1,g2⟩:=aO hy
     rw[bN g2] at g1
     exact pD hcc h1 g1
    ·cases h
   ·rename_i x y T1 T2 hc ha hg
    have hcc:c=⟨.builtin .min, #[x,y], #[T1,T2]⟩:=by
     obtain⟨c1,c2,c3⟩:=c
     simp only at hc ha hg
     subst hc
     have e2:c2= #[x,y]:=by rw[←ha]
     have e3:c3= #[T1,T2]:=by rw[←hg]
     rw[e2,e3]
    split at h
    ·rename_i hx hy
     have hk:=of_decide_eq_true (ay h).1
     have h3:=(ay h).2
     clear h
     subst hk
     obtain rfl:=inS h3
     obtain⟨z,h1,h2⟩:=aO hx
     rw[bN h2] at h1
     obtain⟨z',g1,g2⟩:=aO hy
     rw[bN g2] at g1
     exact pC hcc h1 g1
    ·cases h
   ·cases h
  ·obtain⟨z,h1,h2⟩:=aO h
   exact tF h1 h2
  ·rename_i b T x y T' _ _
   split at h
   ·rename_i k p k' q hx hy
    obtain⟨z,h1,h2⟩:=aO hx
    rw[bN h2] at h1
    obtain⟨z',g1,g2⟩:=aO hy
    rw[bN g2] at g1
    split at h
    ·rename_i r' hr
     obtain rfl:=inS h
     cases b<;>simp only[shX] at hr<;>first|cases hr|skip
     ·obtain⟨h0,hr⟩:=ay hr;obtain rfl:=inS hr;exact y_shl h1 g1 (of_decide_eq_true h0) rfl
     ·obtain⟨h0,hr⟩:=ay hr;obtain rfl:=inS hr;exact y_shr h1 g1 (of_decide_eq_true h0)
    ·obtain⟨hk,h⟩:=ay h
     obtain rfl:=of_decide_eq_true hk
     cases b<;>simp only[bitX] at h<;>first|cases h|skip
     ·obtain⟨h0,h⟩:=bifN h;obtain rfl:=inS h;exact y_quo h1 g1 (of_decide_eq_false h0) rfl
     ·obtain⟨h0,h⟩:=bifN h;obtain rfl:=inS h;exact y_rem h1 g1 (of_decide_eq_false h0)
     ·exact uo h1 g1 rfl
     ·exact uF h1 g1 rfl
     ·exact y_xor h1 g1 rfl
   ·split at h
    ·rename_i hq
     obtain rfl:=inS h
     exact vR hq
    ·exact tW h
  ·obtain⟨z,h1,h2⟩:=aO h
   unfold qc at h2
   split at h2
   ·split at h2
    ·rename_i hT hl hhi
     obtain⟨hc,h2⟩:=ay h2
     obtain rfl:=inS h2
     simp only[Bool.and_eq_true] at hc
     exact ni hT h1 (Le.refl _) (kN hl) (kN hhi) (of_decide_eq_true hc.1) (of_decide_eq_true hc.2.1) (λe he=>nbE (List.all_eq_true.1 hc.2.2 e he))
    ·cases h2
   ·cases h2
  ·unfold b2X at h
   split at h
   ·rename_i hx hS hT
    split at h
    ·rename_i ho he
     split at h
     ·rename_i bs hb
      obtain rfl:=inS h
      exact y_b2s hS he hT hx (b5 ho) hb
     ·cases h
    ·cases h
   ·cases h
  ·exact vv h
  ·exact vS h
  ·unfold rn at h
   split at h
   ·rename_i pl zs xs hp hz hx
    split at h
    ·rename_i cs hf
     obtain rfl:=inS h
     exact pN hp hz hx hf
    ·cases h
   ·unfold oq at h
    split at h
    ·rename_i hp hz hx
     split at h
     ·rename_i cs hf
      obtain rfl:=inS h
      exact pO hp hz hx hf
     ·cases h
    ·cases h
  ·split at h
   ·rename_i hx hi hT
    obtain⟨z,h1,h2⟩:=aO hi
    rw[bN h2] at h1
    split at h
    ·rename_i hr
     obtain rfl:=inS h
     exact bg hT hx h1 hr
    ·cases h
   ·rename_i hx hi _
    obtain⟨z,h1,h2⟩:=aO hi
    rw[bN h2] at h1
    exact vw hx h1 h
   ·cases h
  ·cases h
end
def exY(P:Program)(t:Ty)(env:Env)(st:List AO)(op:Op):Option AV:=match vJ P t env st op with
 |some r=>some r
 |none=>xtY P env st op
section
variable{P:Program}{t:Ty}{env:Env}{st:List AO}{dst:Option Tmp}{ty:TypeId}{pos:String}{after:Array Edge}{guard:Option (Nat×Bool)}
theorem qV(ht:t.ok P=true){op:Op}{r:AV}(h:exY P t env st op=some r):Yields P env st ⟨dst,op,ty,pos,after,guard⟩ r:=by
 unfold exY at h
 split at h
 ·obtain rfl:=inS h
  exact tO ht (by assumption)
 ·exact uQ h
end
def p9(ops:Array Oper)(o:Oper):Bool:=match o.op,o.dst with
 | .slice _ _ none (some _) none,some d=>ops.any λp=>match p.op with
  | .store _ _ (.tmp u)=>Nat.beq u d
  | .assign (.tmp u)=>Nat.beq u d
  |_=>false
 |_,_=>false
def tN(P:Program)(t:Ty)(ops:Array Oper)(env:Env)(st:List AO)(o:Oper):Option AV:=bif p9 ops o then none else exY P t env st o.op
theorem jR{P:Program}{t:Ty}{ops:Array Oper}{env:Env}{st:List AO}{o:Oper}{r:AV}(h:tN P t ops env st o=some r):exY P t env st o.op=some r:=by
 unfold tN at h
 cases hb:p9 ops o with
 |true=>rw[hb] at h;cases h
 |false=>rw[hb] at h;exact h
section
variable{P:Program}{env:Env}{st st':List AO}{dst:Option Tmp}{ty:TypeId}{pos:String}{after:Array Edge}{guard:Option (Nat×Bool)}
theorem l8{T:TypeId}{x y:Operand}{id ver off n T' k:Nat}{es es':List (List AV)}{r:AV}{rs:List AV}(hx:opv env x=some (.pe id ver off))(hs:st[id]? =some (.os T' k ver es))(hy:opv env y=some r)(hk:r.okS st=true)(hc:r.cells=rs)(hk1:rs.all (AV.ok1S st)=true)
  (hn:aM P T=some n)(hl:rs.length=n)(hlen:off+n≤es.flatten.length)(hes:es'.flatten=es.flatten.take off++rs++es.flatten.drop (off+n))(hel:es'.length=es.length)(hek:∀e∈es',e.length=k):
  Does P env st ⟨dst, .store T x y,ty,pos,after,guard⟩ (.d (.v undef)) (st.set id (.os T' k ver es')):=λm φ a w hsr he=>by
 obtain⟨b,len,cap,xs,g1,g2,g3,g4,g5,g6⟩:=iN hsr he hx hs
 obtain⟨us,q1,q2⟩:=dy hsr (af he hy) hk
 rw[hc] at q2
 have hul:=aj q2
 have hxl:=aj g4
 obtain⟨r1,r2⟩:=g3
 rcases r2 with⟨hv,_⟩|⟨g,cap',cur,hv,p1,p2,p3,p4,p5,p6⟩
 ·cases hv
 simp only[Value.slice.injEq,aa,Addr.mk.injEq,and_true] at hv
 obtain⟨rfl,rfl,rfl⟩:=hv
 have hcl:es.length*k≤cur.size:=by rw[p5];exact Nat.mul_le_mul_right _ p3
 have hfl:es.flatten.length=es.length*k:=oM
 have hst:=run_storeCells_at P b off T' us 0 cur w p2 oM (ge hsr q2 hk1)
 simp only[Nat.add_zero,hul,hl] at hst
 have hsize:us.length=n:=oM
 have hnew:RAs m φ w es'.flatten (xs.take off++us++xs.drop (off+n)):=by rw[hes];exact ak (ak (aV off g4) q2) (aZ _ g4)
 have htk:((cur.toList.take off++us++cur.toList.drop (off+n)).toArray.toList).take (es.length*k)=xs.take off++us++xs.drop (off+n):=by
  rw[←p6]
  apply List.ext_getElem?
  intro j
  have hcz:cur.toList.length=cur.size:=sM
  simp only[List.getElem?_take,List.getElem?_append,List.length_append,List.length_take,List.getElem?_drop,hsize,hcz]
  rw[Nat.min_eq_left (show off≤cur.size by omega),Nat.min_eq_left (show es.length*k≤cur.size by omega),Nat.min_eq_left (show off≤es.length*k by omega)]
  by_cases h1:j<es.length*k
  ·rw[if_pos h1]
   by_cases h2:j<off+n
   ·rw[if_pos h2,if_pos h2]
    by_cases h3:j<off
    ·simp only[if_pos h3,if_pos h1]
    ·simp only[if_neg h3]
   ·rw[if_neg h2,if_neg h2]
    have:off+n+(j - (off+n))=j:=oM
    rw[this,if_pos h1]
  ·rw[if_neg h1,if_neg (show¬j<off+n by omega)]
   have:off+n+(j - (off+n))=j:=oM
   rw[this,if_neg h1]
 obtain⟨k1,k2⟩:=qe hsr hs g1 hnew hel hek cur p2 (cur.toList.take off++us++cur.toList.drop (off+n)).toArray (by simp[hsize];omega) htk
 refine⟨undef,_,m,φ, .inr ⟨?_,rfl⟩,k1,k2,RAv⟩
 simp[execOp,Instr.storeAt,Instr.sureAddr,g2,storeVar,q1,ae hn,hsize,hst]
end
section
variable{P:Program}{env:Env}{st:List AO}{dst:Option Tmp}{ty:TypeId}{pos:String}{after:Array Edge}{guard:Option (Nat×Bool)}
theorem d_pop{T k e:Nat}{bb:Bool}{x:Operand}{hi:Option Operand}{id ver h:Nat}{es:List (List AV)}(hT:ai P T=some (k,bb))(hx:opv env x=some (.os id ver))(hi':st[id]? =some (.os e k ver es))
  (hhi:Bnd env hi es.length h)(h2:h≤es.length):
  Does P env st ⟨dst, .slice T x none hi none,ty,pos,after,guard⟩ (.os id (ver+1)) (st.set id (.os e k (ver+1) (es.take h))):=λm φ a w hsr he=>by
 obtain⟨y,xs,g1,g2,g3,g4,g5,g6⟩:=gu hsr he hx hi'
 obtain⟨t,q1,q2,_⟩:=aQ hT
 have hl:Bnd env none 0 0:=rfl
 have key:∃y',(execOp a.eval ⟨dst, .slice T x none hi none,ty,pos,after,guard⟩).run P w= .ok (.value y') w∧w.ownsRow 0 e k y' h (xs.take (h*k))∧y'.ownBlock=y.ownBlock:=by
  rcases g3.2 with⟨rfl,hn⟩|⟨g,cap,cur,rfl,r1,r2,r3,r4,r5,r6⟩
  ·have h0:h=0:=oM
   subst h0
   refine⟨.slice none 0 0,?_,⟨sM, .inl ⟨rfl,rfl⟩⟩,rfl⟩
   have:=aF (P:=P) (len:=es.length) (cap:=0) he hl hhi (Nat.le_refl _) (Nat.le_refl 0) w
   rw[hn] at this
   simp_all [execOp,Instr.sliceAt,run_underlying q1,Instr.slice,ae q2]
  ·refine⟨.slice (some ⟨g,0,none⟩) h cap,?_,⟨?_, .inr ⟨g,cap,cur,rfl,r1,r2,oM,r4,r5,?_⟩⟩,rfl⟩
   ·have:=aF (P:=P) (len:=es.length) (cap:=cap) he hl hhi (Nat.zero_le _) oM w
    by_cases hcl:cap=0
    ·subst hcl
     have:h=0:=oM
     subst this
     simp_all [execOp,Instr.sliceAt,run_underlying q1,Instr.slice,ae q2]
    ·have hcl':¬(0=cap):=λh=>hcl h.symm
     simp only[Option.map_none] at this
     simp[execOp,Instr.sliceAt,run_underlying q1,Instr.slice,g2,this,ae q2,hcl,hcl',Addr.add]
   ·rw[List.length_take,g3.1];exact Nat.min_eq_left (Nat.mul_le_mul_right _ h2)
   ·rw[←r6,List.take_take,Nat.min_eq_left (Nat.mul_le_mul_right _ h2)]
 obtain⟨y',k1,k2,k3⟩:=key
 have hobj:OR (m.set id (.tok (ver+1) y')) φ w (.os e k (ver+1) (es.take h)) (.tok (ver+1) y'):=by
  have hpre:Pre m (m.set id (.tok (ver+1) y')):=λi d hd=>by
   by_cases hii:i=id
   ·subst hii
    rw[g1] at hd
    simp only[aa] at hd
    subst hd
    exact⟨_,by rw[List.getElem?_set_self (cD g1)],eG _ _ _⟩
   ·exact⟨d,by rw[List.getElem?_set_ne (Ne.symm hii)];exact hd,Cz.le_refl d⟩
  refine⟨y',_,rfl,by rw[List.length_take,Nat.min_eq_left h2];exact k2,?_,λf hf=>g5 f (List.mem_of_mem_take hf),λb hb=>g6 b (by rw[←k3];exact hb)⟩
  rw[cu es h g5]
  exact aV _ (RAs.mono hpre (Fz.refl _ _) _ _ g4)
 obtain⟨j1,j2⟩:=eg (o':= .os e k (ver+1) (es.take h)) (c':= .tok (ver+1) y') (φ':=φ) (w':=w) hsr hi' rfl g1 (eG _ _ _) rfl rfl rfl (Nat.le_refl _)
  (λb hb hn=>⟨rfl,rfl⟩) (Fz.refl _ _) hsr.lt (λb hb=> .inl (by simpa[Cz.has,k3] using hb)) hobj
 refine⟨y',w,_,φ, .inl k1,j1,j2,?_⟩
 simp only[RA]
 exact⟨ver+1,y',by rw[List.getElem?_set_self (cD g1)],Nat.le_refl _,λ_=>rfl⟩
end
section
variable{P:Program}{env:Env}{st:List AO}{dst:Option Tmp}{ty:TypeId}{pos:String}{after:Array Edge}{guard:Option (Nat×Bool)}
theorem fq(n:Nat):(Builtin.zeroCells #[Value.int .i64 0] n).toList=List.replicate n (.int .i64 0):=by
 apply List.ext_getElem?
 intro i
 by_cases h:i<n
 ·simp[Builtin.zeroCells,List.getElem?_replicate,h,Nat.mod_one]
 ·simp[Builtin.zeroCells,List.getElem?_replicate,h]
theorem hU(w:World)(T T' e:TypeId)(i:TypeInfo)(z:Value)(ht:P.underlying T=some (.slice e))(hk:P.underlying T'=some (.int .i64))(hi:P.info? e=some i)(hz:i.zero=some z)(hs:i.size=1)(hzc:z.cells= #[.int .i64 0])
  (n:Nat)(h0:0<n)(h63:n≤140737488355328)(h48:n*i.bytes≤140737488355328):
  (Builtin.append_ #[T,T'] ty #[.slice none 0 0, .int .i64 n]).run P w=
   .ok (.slice (some ⟨w.heap.size,0,none⟩) n (grownCap w n 0 e)) (w.drew.alloc (.cells (Builtin.zeroCells #[.int .i64 0] n++Builtin.zeroCells #[.int .i64 0] (grownCap w n 0 e - n)) e)):=by
 have hn:¬(n=0):=oM
 have h63':¬(9223372036854775807<(n:Int)):=oM
 have h48':¬(281474976710656<Builtin.nextslicecap n 0*i.bytes):=by rw[nextslicecap_zero h0];omega
 have h48'':¬(281474976710656<(n:Int)*(i.bytes:Int)):=by
  have:((n*i.bytes:Nat):Int)≤((140737488355328:Nat):Int):=Int.ofNat_le.2 h48
  rw[Int.natCast_mul] at this
  omega
 have hw:IntKind.i64.wrap (n:Int)=n:=by
  unfold IntKind.wrap
  have:IntKind.i64.bits=64:=rfl
  have hs:IntKind.i64.signed=true:=rfl
  rw[this]
  simp only[hs]
  have e1:((2:Int)^64)=18446744073709551616:=rfl
  have e2:((2:Int)^(64 - 1))=9223372036854775808:=rfl
  rw[e1]
  simp
  omega
 have hneg:¬((n:Int)<0):=oM
 simp[Builtin.append_,run_underlying ht,run_underlying hk,sizeOf,typeInfo,zeroValue,hi,hz,hs,hzc,asInt,asIntOf,hw,hneg,Builtin.lenOf,hn,h63',h48',h48'',Question.forced,run_firstCells_none,newRow,grownCap]
theorem ku{T T' e by_:Nat}{n:Int}{s x:Operand}{c:Call}(hT:bW P T=some (e,1,by_))(hz:ao P e=some [.int .i64 0])(hk:P.underlying T'=some (.int .i64))(hc:c=⟨.builtin .append, #[s,x], #[T,T']⟩)
  (hs:opv env s=some (.d (.v (.slice none 0 0))))(hx:opv env x=some (.d (.v (.int .i64 n))))(h0:0<n.toNat)(h63:n.toNat≤140737488355328)(h48:n.toNat*by_≤140737488355328):
  NewOs P env st ⟨dst, .call c,ty,pos,after,guard⟩ e 1 (List.replicate n.toNat [.d (.v (.int .i64 0))]):=λm φ a w hsr he=>by
 obtain⟨i,ht,hi,hsz0,rfl⟩:=ck hT
 have hsz:i.size=1:=hsz0
 obtain⟨z,hz1,hz2⟩:=bS hz hi
 have hn:((n.toNat:Nat):Int)=n:=oM
 have hzc:z.cells= #[.int .i64 0]:=by apply Array.ext';rw[hz2]
 have hr:=hU (P:=P) (ty:=ty) w T T' e i z ht hk hi hz1 hsz hzc n.toNat h0 h63 h48
 rw[hn] at hr
 have hge:=grownCap_ge w n.toNat 0 e
 have hle:=grownCap_le_maxLen w n.toNat 0 e (by simp only[maxLen];omega)
 generalize grownCap w n.toNat 0 e=cap at hr hge hle
 have hdr:Below w.heap.size w w.drew:=(Below.refl _ _).drew
 have hB:Below w.heap.size w (w.drew.alloc (.cells (Builtin.zeroCells #[.int .i64 0] n.toNat++Builtin.zeroCells #[.int .i64 0] (cap - n.toNat)) e)):=hdr.alloc (Nat.le_refl _) _
 have hF:=Fz.of_below hsr hB
 have hnew:∀b,(Cz.tok 0 (.slice (some ⟨w.heap.size,0,none⟩) n.toNat cap)).has b→w.heap.size≤b:=λb hb=>by simp only[Cz.has,Value.ownBlock,aa] at hb;omega
 refine⟨_,_,?_,Ev.push hsr hF hB.block hB.size hB.os hB.tape hB.output hnew,SR.push hsr hF hB.block hB.size ?_ hnew,hB,λb hb=>by simp only[Value.ownBlock,aa] at hb;omega⟩
 ·subst hc
  simp[execOp,resolve,invoke,builtin,ah he hs,ah he hx,hr]
 ·have hl:(Builtin.zeroCells #[Value.int .i64 0] n.toNat++Builtin.zeroCells #[Value.int .i64 0] (cap - n.toNat)).toList=List.replicate n.toNat (.int .i64 0)++List.replicate (cap - n.toNat) (.int .i64 0):=by
   rw[Array.toList_append,fq,fq]
  have hras:∀j:Nat,RAs (m++ [Cz.tok 0 (.slice (some ⟨w.heap.size,0,none⟩) n.toNat cap)]) φ (w.drew.alloc (.cells (Builtin.zeroCells #[.int .i64 0] n.toNat++Builtin.zeroCells #[.int .i64 0] (cap - n.toNat)) e)) (List.replicate j [AV.d (.v (.int .i64 0))]).flatten (List.replicate j (Value.int .i64 0)):=by
   intro j
   induction j with
   |zero=>exact aR
   |succ j ih=>rw[List.replicate_succ,List.replicate_succ,List.flatten_cons];exact au RAv ih
  refine⟨_,List.replicate n.toNat (.int .i64 0),rfl,⟨sM, .inr ⟨w.heap.size,cap,_,sM,Nat.zero_le _,heap_alloc_new w.drew _,by simpa using hge,by simpa using hle,?_,?_⟩⟩,hras _,λf hf=>?_,λb hb=>?_⟩
  ·rw[←Array.length_toList,hl];simp;omega
  ·rw[hl,List.take_left' sM]
  ·rw[(List.mem_replicate.1 hf).2];rfl
  ·simp only[Value.ownBlock,aa] at hb
   exact hsr.lt b oM
end
theorem Does.nil_os{P:Program}{env:Env}{st st':List AO}{o:Oper}{r:AV}(t T k:Nat)(ht:env.get t=some (.d (.v (.slice none 0 0))))(h:Does P ((t, .os st.length 0)::env) (st++ [.os T k 0 []]) o r st'):Does P env st o r st':=λm φ a w hs he=>by
 obtain⟨h1,h2⟩:=nw (T:=T) (k:=k) hs
 have h3:EnvOk (m++ [.tok 0 (.slice none 0 0)]) φ w env a:=he.mono (Pre.append _ _) (Fz.refl φ w)
 have h4:EnvOk (m++ [.tok 0 (.slice none 0 0)]) φ w ((t, .os st.length 0)::env) a:=⟨λs x hx=>by
  unfold Env.get at hx
  cases hb:Nat.beq s t with
  |true=>
   rw[hb] at hx
   simp only[cdT,aa] at hx
   subst hx
   have:s=t:=nbE hb
   subst this
   obtain⟨v,g1,g2⟩:=he s _ ht
   simp only[RA,RD] at g2
   subst g2
   refine⟨_,g1,?_⟩
   simp only[RA]
   exact⟨0,_,by rw[←hs.len];simp,Nat.le_refl _,λ_=>rfl⟩
  |false=>rw[hb] at hx;exact h3 s x hx,h3.gl⟩
 obtain⟨v,w',m',φ',k1,k2,k3,k4⟩:=h _ φ a w h2 h4
 exact⟨v,w',m',φ',k1,h1.trans k2,k3,k4⟩
def fd(k:Nat):Nat→List AV→List (List AV)
 |0,_=> []
 |n+1,xs=>xs.take k::fd k n (xs.drop k)
theorem jV(k:Nat):∀(n:Nat)(xs:List AV),xs.length=n*k→(fd k n xs).flatten=xs∧(fd k n xs).length=n∧∀e∈fd k n xs,e.length=k
 |0,xs,h=>by
  have:xs=[]:=List.eq_nil_of_length_eq_zero (by simpa using h)
  subst this
  exact⟨rfl,rfl,λe he=>by cases he⟩
 |n+1,xs,h=>by
  have hk:k≤xs.length:=by rw[h,Nat.succ_mul];omega
  obtain⟨h1,h2,h3⟩:=jV k n (xs.drop k) (by rw[List.length_drop,h,Nat.succ_mul];omega)
  refine⟨?_,?_,λe he=>?_⟩
  ·show xs.take k++(fd k n (xs.drop k)).flatten=xs
   rw[h1,List.take_append_drop]
  ·show(fd k n (xs.drop k)).length+1=n+1
   rw[h2]
  ·rcases List.mem_cons.1 he with rfl|he
   ·rw[List.length_take];omega
   ·exact h3 e he
theorem jQ{k:Nat}:∀{es:List (List AV)},(∀e∈es,e.length=k)→es.flatten.length=es.length*k
 |[],_=>sM
 |e::es,h=>by
  rw[List.flatten_cons,List.length_append,jQ (λe' he=>h e' (List.mem_cons_of_mem _ he)),h e List.mem_cons_self,List.length_cons,Nat.succ_mul]
  omega
def rY(st:List AO)(k:Nat):AV→Option (List (List AV))
 | .d (.sl ds)=>bif ds.all (λe=>Nat.beq e.length k) then some (ds.map λe=>e.map AV.d) else none
 | .os id ver=>match osA st id ver with
  |some (_,k',fs)=>bif Nat.beq k' k then some fs else none
  |none=>none
 | .d (.v (.slice none 0 0))=>some []
 | .ow id ver off len lo=>match osA st id ver with
  |some (_,k',fs)=>bif Nat.beq k' k&&(Nat.beq off (lo*k)&&Nat.ble (lo+len) fs.length) then some ((fs.drop lo).take len) else none
  |none=>none
 |_=>none
theorem nz{st:List AO}{k:Nat}{x:AV}{fs:List (List AV)}(h:rY st k x=some fs):Src st x k fs:=by
 unfold rY at h
 split at h
 ·obtain⟨hc,h⟩:=ay h
  obtain rfl:=inS h
  exact Src.data (Le.refl _) (λe he=>nbE (List.all_eq_true.1 hc e he))
 ·split at h
  ·rename_i ho
   obtain⟨hc,h⟩:=ay h
   obtain rfl:=inS h
   have e:=nbE hc
   subst e
   exact Src.own (b5 ho)
  ·cases h
 ·obtain rfl:=inS h
  exact Src.data (ds:=[]) Le.nil (λe he=>by cases he)
 ·split at h
  ·rename_i ho
   obtain⟨hc,h⟩:=ay h
   simp only[Bool.and_eq_true] at hc
   obtain rfl:=inS h
   have e:=nbE hc.1
   subst e
   exact Src.ow (b5 ho) (nbE hc.2.1) (nbT hc.2.2)
  ·cases h
 ·cases h
def ub(P:Program)(env:Env)(st:List AO)(s x:Operand)(T:Nat):Option (AV×List AO):=
 match opv env s,opv env x,bW P T with
 |some (.os id ver),some xr,some (e,k,by_)=>(match osA st id ver,rY st k xr,ao P e with
  |some (e',k',es),some fs,some zs=>bif Nat.beq e' e&&(Nat.beq k' k&&(Nat.beq zs.length k&&(Nat.blt 0 k&&(fs.flatten.all (AV.ok1S st)&&(fs.all (λf=>Nat.beq f.length k)&&(decide (es.length+fs.length≤maxLen)&&decide ((es.length+fs.length)*by_≤140737488355328)))))))
   then aL (es++fs) (λes'=>some (.os id (ver+1),st.set id (.os e k (ver+1) es'))) else none
  |_,_,_=>none)
 |_,_,_=>none
def v4(P:Program)(env:Env)(st:List AO)(T T':Nat)(s x:Operand):Option (AV×List AO):=
 match opv env s,opv env x,bW P T with
 |some (.d (.v (.slice none 0 0))),some (.d (.v (.int .i64 n))),some (e,1,by_)=>(match P.underlying T',ao P e with
  |some (.int .i64),some [.int .i64 0]=>bif Nat.blt 0 n.toNat&&(Nat.ble n.toNat 1000000&&Nat.ble (n.toNat*by_) 140737488355328) then some (.os st.length 0,st++ [.os e 1 0 (List.replicate n.toNat [.d (.v (.int .i64 0))])]) else none
  |_,_=>none)
 |_,_,_=>none
def mJ(P:Program)(env:Env)(st:List AO)(T:Nat)(x y:Operand):Option (AV×List AO):=
 match opv env x,opv env y,aM P T with
 |some (.pt id off),some r,some n=>(match st[id]? with
  |some (.row T' cs)=>bif r.okS st&&(r.cells.all (AV.ok1S st)&&(Nat.beq r.cells.length n&&Nat.ble (off+n) cs.length)) then aL (cs.take off++r.cells++cs.drop (off+n)) (λcs'=>some (.d (.v undef),st.set id (.row T' cs'))) else none
  |_=>none)
 |some (.pe id ver off),some r,some n=>(match osA st id ver with
  |some (T',k,es)=>bif r.okS st&&(r.cells.all (AV.ok1S st)&&(Nat.beq r.cells.length n&&(decide (off+n≤es.flatten.length)&&es.all λe=>Nat.beq e.length k)))
   then aL (es.flatten.take off++r.cells++es.flatten.drop (off+n)) (λfl=>aL (fd k es.length fl) λes'=>some (.d (.v undef),st.set id (.os T' k ver es'))) else none
  |none=>none)
 |_,_,_=>none
def mkX(P:Program)(env:Env)(st:List AO)(T:Nat)(x y:Operand):Option (AV×List AO):=
 match(opv env x).bind gy,(opv env y).bind gy,bW P T with
 |some (_,n),some (_,n'),some (e,k,by_)=>(match ao P e with
  |some zs=>bif decide (n=n')&&(Nat.beq zs.length k&&(Nat.blt 0 k&&tv by_ n)) then some (.os st.length 0,st++ [.os e k 0 (List.replicate n.toNat (zs.map λz=> .d (.v z)))]) else none
  |none=>none)
 |_,_,_=>none
def v3(P:Program)(env:Env)(st:List AO)(T len:Nat)(parts:Array (Nat×Operand)):Option (AV×List AO):=
 bif Nat.beq len 0&&parts.isEmpty then(match bW P T with
  |some (e,k,_)=>some (.os st.length 0,st++ [.os e k 0 []])
  |none=>none) else
 match bW P T,aX env (parts.toList.map (·.2)) with
 |some (e,k,_),some xs=>(match ao P e with
  |some zs=>bif Nat.beq zs.length k&&(decide (len*k≤16777216)&&(Nat.blt 0 (len*k)&&(decide (parts.toList.map (·.1)=List.range len)&&((xs.all λx=>x.okS st&&Nat.beq x.cells.length k)&&decide (len≤maxLen)))))
   then some (.os st.length 0,st++ [.os e k 0 (xs.map AV.cells)]) else none
  |none=>none)
 |_,_=>none
def appN(P:Program)(env:Env)(st:List AO)(s x:Operand)(T:Nat):Option (AV×List AO):=
 match s with
 | .tmp t=>(match env.get t,bW P T with
  |some (.d (.v (.slice none 0 0))),some (e,k,_)=>ub P ((t, .os st.length 0)::env) (st++ [.os e k 0 []]) s x T
  |_,_=>none)
 |_=>none
def vn(P:Program)(env:Env)(st:List AO)(T:Nat)(x:Operand)(hi:Operand):Option (AV×List AO):=
 match opv env x,ai P T,ro env (some hi) 0 with
 |some (.os id ver),some (k,_),some h=>(match osA st id ver with
  |some (e,k',es)=>bif Nat.beq k k'&&Nat.ble h es.length then some (.os id (ver+1),st.set id (.os e k (ver+1) (es.take h))) else none
  |none=>none)
 |_,_,_=>none
def vM(P:Program)(env:Env)(st:List AO):Op→Option (AV×List AO)
 | .box T x=>match opv env x with
  |some r=>bif r.okS st then some (.pt st.length 0,st++ [.row T r.cells]) else none
  |none=>none
 | .alloc T=>match ao P T with
  |some vs=>some (.pt st.length 0,st++ [.row T (vs.map λv=> .d (.v v))])
  |none=>none
 | .store T x y=>mJ P env st T x y
 | .makeSlice T x y=>mkX P env st T x y
 | .buildSlice T len parts=>v3 P env st T len parts
 | .makeMap _ none=>some (.mp st.length,st++ [.mb [] [] 0])
 | .insert T x ki v=>muX P env st T x ki v
 | .mapUpdate T x ki v=>muX P env st T x ki v
 | .range T x=>rgX P env st T x
 | .slice T x none (some hi) none=>vn P env st T x hi
 | .call c=>(match c.callee,c.args.toList,c.argTypes.toList with
  | .builtin .append,[s,x],[T,T']=>bif Nat.beq T T' then(match ub P env st s x T with
   |some r=>some r
   |none=>appN P env st s x T) else v4 P env st T T' s x
  |_,_,_=>none)
 |_=>none
def exD(P:Program)(env:Env)(st:List AO)(op:Op):Option (AV×List AO):=match vM P env st op with
 |some (r,s)=>aL s λs'=>some (r,s')
 |none=>none
section
variable{P:Program}{env:Env}{st st':List AO}{dst:Option Tmp}{ty:TypeId}{pos:String}{after:Array Edge}{guard:Option (Nat×Bool)}
theorem oU{T:Nat}{x y:Operand}{r:AV}(h:mJ P env st T x y=some (r,st')):Does P env st ⟨dst, .store T x y,ty,pos,after,guard⟩ r st':=by
 unfold mJ at h
 split at h
 ·rename_i hx hy hn
  split at h
  ·rename_i hs
   obtain⟨hc,h⟩:=ay h
   rw[aU] at h
   simp only[aa,Prod.mk.injEq] at h
   obtain⟨rfl,rfl⟩:=h
   simp only[Bool.and_eq_true] at hc
   exact rh hx hs hy hc.1 rfl hc.2.1 hn (nbE hc.2.2.1) hc.2.2.2
  ·cases h
 ·rename_i id ver off r0 n hx hy hn
  split at h
  ·rename_i T' k es ho
   obtain⟨hc,h⟩:=ay h
   rw[aU,aU] at h
   simp only[aa,Prod.mk.injEq] at h
   obtain⟨rfl,rfl⟩:=h
   simp only[Bool.and_eq_true,decide_eq_true_eq] at hc
   obtain⟨c1,c2,c3,c4,c5⟩:=hc
   have c3:=nbE c3
   have hk:∀e∈es,e.length=k:=λe he=>nbE (List.all_eq_true.1 c5 e he)
   have hf:=jQ hk
   obtain⟨q1,q2,q3⟩:=jV k es.length (es.flatten.take off++r0.cells++es.flatten.drop (off+n)) (by
    rw[List.length_append,List.length_append,List.length_take,List.length_drop,c3,←hf];omega)
   exact l8 hx (b5 ho) hy c1 rfl c2 hn c3 c4 q1 q2 q3
  ·cases h
 ·cases h
theorem vt{T:Nat}{x y:Operand}{r:AV}(h:mkX P env st T x y=some (r,st')):Does P env st ⟨dst, .makeSlice T x y,ty,pos,after,guard⟩ r st':=by
 unfold mkX at h
 split at h
 ·rename_i hx hy hT
  split at h
  ·rename_i hz
   obtain⟨hc,h⟩:=ay h
   simp only[aa,Prod.mk.injEq] at h
   obtain⟨rfl,rfl⟩:=h
   simp only[Bool.and_eq_true,decide_eq_true_eq] at hc
   obtain⟨rfl,c1,c2,c3⟩:=hc
   obtain⟨z,h1,h2⟩:=aO hx
   rw[bN h2] at h1
   obtain⟨z',g1,g2⟩:=aO hy
   rw[bN g2] at g1
   exact(gW hT hz (nbE c1) (nbT c2) h1 g1 c3).b.does
  ·cases h
 ·cases h
theorem ua{T len:Nat}{parts:Array (Nat×Operand)}{r:AV}(h:v3 P env st T len parts=some (r,st')):Does P env st ⟨dst, .buildSlice T len parts,ty,pos,after,guard⟩ r st':=by
 unfold v3 at h
 cases h0:Nat.beq len 0&&parts.isEmpty with
 |true=>
  rw[h0,cdT] at h
  rw[Bool.and_eq_true] at h0
  have e0:=nbE h0.1
  have e1:parts= #[]:=by simpa using h0.2
  subst e0
  subst e1
  split at h
  ·rename_i hT
   simp only[aa,Prod.mk.injEq] at h
   obtain⟨rfl,rfl⟩:=h
   exact(lA hT).b.does
  ·cases h
 |false=>
 rw[h0,cdF] at h
 split at h
 ·rename_i hT hx
  split at h
  ·rename_i hz
   obtain⟨hc,h⟩:=ay h
   simp only[aa,Prod.mk.injEq] at h
   obtain⟨rfl,rfl⟩:=h
   simp only[Bool.and_eq_true,decide_eq_true_eq] at hc
   obtain⟨c1,c2,c3,c4,c5,c6⟩:=hc
   exact(eL hT hz (nbE c1) c2 (nbT c3) c4 hx c5 c6).b.does
  ·cases h
 ·cases h
theorem ox{T:Nat}{s x:Operand}{c:Call}{r:AV}(hcc:c=⟨.builtin .append, #[s,x], #[T,T]⟩)(h2:ub P env st s x T=some (r,st')):Does P env st ⟨dst, .call c,ty,pos,after,guard⟩ r st':=by
 unfold ub at h2
 split at h2
 ·rename_i hs hx hT
  split at h2
  ·rename_i ho hsrc hz
   obtain⟨hc',h3⟩:=ay h2
   rw[aU] at h3
   simp only[aa,Prod.mk.injEq] at h3
   obtain⟨rfl,rfl⟩:=h3
   simp only[Bool.and_eq_true,decide_eq_true_eq] at hc'
   obtain⟨c1,c2,c3,c4,c5,c6,c7,c8⟩:=hc'
   have c1:=nbE c1
   have c2:=nbE c2
   subst c1 c2
   exact pg (_T':=0) hT hz (nbE c3) (nbT c4) hcc hs (b5 ho) hx (nz hsrc) c5 (λf hf=>nbE (List.all_eq_true.1 c6 f hf)) c7 c8
  ·cases h2
 ·cases h2
theorem uc{T T':Nat}{s x:Operand}{c:Call}{r:AV}(hcc:c=⟨.builtin .append, #[s,x], #[T,T']⟩)(h:v4 P env st T T' s x=some (r,st')):Does P env st ⟨dst, .call c,ty,pos,after,guard⟩ r st':=by
 unfold v4 at h
 split at h
 ·rename_i hs hx hT
  split at h
  ·rename_i hk hz
   obtain⟨hc,h⟩:=ay h
   simp only[aa,Prod.mk.injEq] at h
   obtain⟨rfl,rfl⟩:=h
   simp only[Bool.and_eq_true] at hc
   have c2:=nbT hc.2.1
   exact(ku hT hz hk hcc hs hx (nbT hc.1) oM (nbT hc.2.2)).b.does
  ·cases h
 ·cases h
theorem r9{T:Nat}{x hi:Operand}{r:AV}(h:vn P env st T x hi=some (r,st')):Does P env st ⟨dst, .slice T x none (some hi) none,ty,pos,after,guard⟩ r st':=by
 unfold vn at h
 split at h
 ·rename_i id ver k bb n hx hT hb
  split at h
  ·rename_i e k' es ho
   obtain⟨hc,h⟩:=ay h
   simp only[aa,Prod.mk.injEq] at h
   obtain⟨rfl,rfl⟩:=h
   rw[Bool.and_eq_true] at hc
   have hk:=nbE hc.1
   subst hk
   have hbd:Bnd env (some hi) es.length n:=by
    have:=kN hb
    exact this
   exact d_pop hT hx (b5 ho) hbd (nbT hc.2)
  ·cases h
 ·cases h
theorem tR{op:Op}{r:AV}(h:vM P env st op=some (r,st')):Does P env st ⟨dst,op,ty,pos,after,guard⟩ r st':=by
 unfold vM at h
 split at h
 ·split at h
  ·rename_i hx
   obtain⟨hc,h⟩:=ay h
   simp only[aa,Prod.mk.injEq] at h
   obtain⟨rfl,rfl⟩:=h
   exact(rq hx hc).does
  ·cases h
 ·split at h
  ·rename_i hz
   simp only[aa,Prod.mk.injEq] at h
   obtain⟨rfl,rfl⟩:=h
   exact(kP hz).does
  ·cases h
 ·exact oU h
 ·exact vt h
 ·exact ua h
 ·simp only[aa,Prod.mk.injEq] at h
  obtain⟨rfl,rfl⟩:=h
  exact qv.does
 ·exact qt (.inl rfl) h
 ·exact qt (.inr rfl) h
 ·exact vi h
 ·exact r9 h
 ·rename_i c
  split at h
  ·rename_i s x T T' hc ha hg
   cases hTT:Nat.beq T T' with
   |false=>
    rw[hTT,cdF] at h
    refine uc ?_ h
    obtain⟨c1,c2,c3⟩:=c
    subst hc
    have e2:c2= #[s,x]:=by rw[←ha]
    have e3:c3= #[T,T']:=by rw[←hg]
    rw[e2,e3]
   |true=>
   have h2:=h
   rw[hTT,cdT] at h2
   clear h
   obtain rfl:=nbE hTT
   have hcc:c=⟨.builtin .append, #[s,x], #[T,T]⟩:=by
    obtain⟨c1,c2,c3⟩:=c
    subst hc
    have e2:c2= #[s,x]:=by rw[←ha]
    have e3:c3= #[T,T]:=by rw[←hg]
    rw[e2,e3]
   split at h2
   ·rename_i r' hr'
    obtain rfl:=inS h2
    exact ox hcc hr'
   ·unfold appN at h2
    split at h2
    ·split at h2
     ·rename_i e k _ hg he
      exact Does.nil_os _ e k hg (ox hcc h2)
     ·cases h2
    ·cases h2
  ·cases h
 ·cases h
theorem kI{op:Op}{r:AV}(h:exD P env st op=some (r,st')):Does P env st ⟨dst,op,ty,pos,after,guard⟩ r st':=by
 unfold exD at h
 split at h
 ·rename_i hx
  rw[aU] at h
  simp only[aa,Prod.mk.injEq] at h
  obtain⟨rfl,rfl⟩:=h
  exact tR hx
 ·cases h
end
abbrev ap:=FuncId→List AV→List AO→Option (AV×List AO)
def aE(P:Program)(call:ap):Prop:=∀f asz st r st',call f asz st=some (r,st')→Ctr P f asz st (λr' s'=>r'=r∧s'=st')
def fF(nt:Nat)(o:Oper)(env:Env)(r:AV)(st:List AO):Option (Env×List AO):=match o.dst with
 |some d=>bif Nat.ble (d+1) nt then some ((d,r)::env,st) else none
 |none=>some (env,st)
def nilX(P:Program)(env:Env)(st:List AO):Op→Option (Env×List AO)
 | .call c=>(match c.args.toList,c.argTypes.toList with
  |[.tmp s,_],[T,_]=>(match env.get s,bW P T with
   |some (.d (.v (.slice none 0 0))),some (e,k,_)=>some ((s, .os st.length 0)::env,st++ [.os e k 0 []])
   |_,_=>none)
  |_,_=>none)
 |_=>none
def oo(call:ap)(env:Env)(st:List AO):Op→Option (AV×List AO)
 | .call c=>(match c.callee with
  | .value x=>(match opv env x,aX env c.args.toList with
   |some (.fn (.func f) first caps),some asz=>call f (first++asz++caps) st
   |_,_=>none)
  |_=>none)
 |_=>none
abbrev ia:=Nat→List AV→List AO→Option (AV×List AO)
def jg(P:Program)(yld:ia):Prop:=∀id asz st r st',yld id asz st=some (r,st')→∀(e:En)(ops:Array Oper)(rest:List Oper)(o:Oper)(env:Env)(R:Env→List AO→Prop)(c:Call)(x:Operand)(d:Nat),
 o.op= .call c→c.callee= .value x→opv env x=some (.yl id)→aX env c.args.toList=some asz→Wt ops env o true→o.dst=some d→Nat.ble (d+1) e.n=true→WL P e ops rest ((d,r)::env) st' R→WL P e ops (o::rest) env st R
def ylX(yld:ia)(env:Env)(st:List AO):Op→Option (AV×List AO)
 | .call c=>(match c.callee with
  | .value x=>(match opv env x,aX env c.args.toList with
   |some (.yl id),some asz=>yld id asz st
   |_,_=>none)
  |_=>none)
 |_=>none
def exE(P:Program)(t:Ty)(nt:Nat)(call:ap)(yld:ia)(ops:Array Oper)(env:Env)(st:List AO)(o:Oper):Option (Env×List AO):=
 match eI ops env o.guard with
 |none=>none
 |some false=>fF nt o env (.d (.v undef)) st
 |some true=>match tN P t ops env st o with
  |some r=>(match o.dst with
   |some _=>fF nt o env r st
   |none=>none)
  |none=>(match exD P env st o.op with
   |some (r,st')=>fF nt o env r st'
   |none=>(match oo call env st o.op with
    |some (r,st')=>(match o.dst with
     |some _=>fF nt o env r st'
     |none=>none)
    |none=>(match nilX P env st o.op with
     |some (env1,st1)=>(match eI ops env1 o.guard,exD P env1 st1 o.op with
      |some true,some (r,st')=>fF nt o env1 r st'
      |_,_=>none)
     |none=>(match ylX yld env st o.op with
      |some (r,st')=>(match o.dst with
       |some _=>fF nt o env r st'
       |none=>none)
      |none=>none))))
abbrev bM:=Oper→Env→List AO→Option (Env×List AO)
def c9(hook:bM):Prop:=∀(e:En) o env st env' st',hook o env st=some (env',st')→Gh e env st env' st'
def exL(P:Program)(t:Ty)(nt:Nat)(call:ap)(yld:ia)(hook:bM)(ops:Array Oper):List Oper→Env→List AO→Option (Env×List AO)
 |[],env,st=>some (env,st)
 |o::l,env,st=>match hook o env st with
  |some (env1,st1)=>(match exE P t nt call yld ops env1 st1 o with
   |some (env',st')=>exL P t nt call yld hook ops l env' st'
   |none=>none)
  |none=>(match exE P t nt call yld ops env st o with
   |some (env',st')=>exL P t nt call yld hook ops l env' st'
   |none=>none)
section
variable{P:Program}{t:Ty}{nt:Nat}{call:ap}{yld:ia}{e:En}{ops:Array Oper}{l:List Oper}{R:Env→List AO→Prop}{env env':Env}{st st':List AO}
theorem uA{o:Oper}{r:AV}(hw:Wt ops env o true)(hy:Does P env st o r st')(hn:e.n=nt)(hp:fF nt o env r st'=some (env',st'))(k:WL P e ops l env' st' R):WL P e ops (o::l) env st R:=by
 unfold fF at hp
 split at hp
 ·rename_i d hd
  obtain⟨hb,hp⟩:=ay hp
  simp only[aa,Prod.mk.injEq] at hp
  obtain⟨rfl,_⟩:=hp
  exact WL.s hy hw hd (by rw[hn];exact hb) k
 ·rename_i hd
  simp only[aa,Prod.mk.injEq] at hp
  obtain⟨rfl,_⟩:=hp
  exact WL.s0 hy hw hd k
theorem nH{o:Oper}{r:AV}{s:List AO}(h:fF nt o env r s=some (env',st')):st'=s:=by
 unfold fF at h
 split at h
 ·obtain⟨_,h⟩:=ay h
  simp only[aa,Prod.mk.injEq] at h
  exact h.2.symm
 ·simp only[aa,Prod.mk.injEq] at h
  exact h.2.symm
theorem m4(ht:t.ok P=true)(hc:aE P call)(hyl:jg P yld)(hn:e.n=nt){o:Oper}(h:exE P t nt call yld ops env st o=some (env',st'))(k:WL P e ops l env' st' R):WL P e ops (o::l) env st R:=by
 unfold exE at h
 split at h
 ·cases h
 ·rename_i hw
  unfold fF at h
  split at h
  ·rename_i d hd
   obtain⟨hb,h⟩:=ay h
   simp only[aa,Prod.mk.injEq] at h
   obtain⟨rfl,rfl⟩:=h
   exact WL.skip (bf hw) hd (by rw[hn];exact hb) k
  ·rename_i hd
   simp only[aa,Prod.mk.injEq] at h
   obtain⟨rfl,rfl⟩:=h
   exact WL.skip0 (bf hw) hd k
 ·rename_i hw
  have hw:=bt hw
  split at h
  ·rename_i r hr
   split at h
   ·rename_i d hd
    unfold fF at h
    rw[hd] at h
    obtain⟨hb,h⟩:=ay h
    simp only[aa,Prod.mk.injEq] at h
    obtain⟨rfl,rfl⟩:=h
    obtain⟨od,oop,oty,opos,oaf,og⟩:=o
    exact WL.q (qV ht (jR hr)) hw hd (by rw[hn];exact hb) k
   ·cases h
  ·split at h
   ·rename_i r s hr
    obtain rfl:=nH h
    obtain⟨od,oop,oty,opos,oaf,og⟩:=o
    exact uA hw (kI hr) hn h k
   ·split at h
    ·rename_i r s hr
     split at h
     ·rename_i d hd
      unfold fF at h
      rw[hd] at h
      obtain⟨hb,h⟩:=ay h
      simp only[aa,Prod.mk.injEq] at h
      obtain⟨rfl,rfl⟩:=h
      unfold oo at hr
      split at hr
      ·rename_i c hop
       split at hr
       ·rename_i x hx
        split at hr
        ·rename_i f first caps asz hf has
         refine WL.call (Q:=λr' s'=>r'=r∧s'=s) hop hx hf has (hc _ _ _ _ _ hr) (Les.refl _) hw hd (by rw[hn];exact hb) λr' s' hq=>?_
         obtain⟨rfl,rfl⟩:=hq
         exact k
        ·cases hr
       ·cases hr
      ·cases hr
     ·cases h
    ·split at h
     ·rename_i env1 st1 h1
      split at h
      ·rename_i r s hw1 hr
       obtain rfl:=nH h
       unfold nilX at h1
       split at h1
       ·split at h1
        ·split at h1
         ·rename_i T1 k1 _ hg he
          simp only[aa,Prod.mk.injEq] at h1
          obtain⟨rfl,rfl⟩:=h1
          refine WL.nil_os _ T1 k1 hg ?_
          obtain⟨od,oop,oty,opos,oaf,og⟩:=o
          exact uA (bt hw1) (kI hr) hn h k
         ·cases h1
        ·cases h1
       ·cases h1
      ·cases h
     ·split at h
      ·rename_i r s hr
       split at h
       ·rename_i d hd
        unfold fF at h
        rw[hd] at h
        obtain⟨hb,h⟩:=ay h
        simp only[aa,Prod.mk.injEq] at h
        obtain⟨rfl,rfl⟩:=h
        unfold ylX at hr
        split at hr
        ·rename_i c hop
         split at hr
         ·rename_i x hx
          split at hr
          ·rename_i id asz hf has
           exact hyl _ _ _ _ _ hr _ _ _ _ _ _ _ _ _ hop hx hf has hw hd (by rw[hn];exact hb) k
          ·cases hr
         ·cases hr
        ·cases hr
       ·cases h
      ·cases h
theorem gC(ht:t.ok P=true)(hc:aE P call)(hyl:jg P yld){hook:bM}(hh:c9 hook)(hn:e.n=nt):∀{l:List Oper}{env:Env}{st:List AO},exL P t nt call yld hook ops l env st=some (env',st')→R env' st'→WL P e ops l env st R
 |[],env,st,h,k=>by
  simp only[exL,aa,Prod.mk.injEq] at h
  obtain⟨rfl,rfl⟩:=h
  exact WL.nil k
 |o::l,env,st,h,k=>by
  unfold exL at h
  split at h
  ·rename_i hk
   split at h
   ·rename_i hs
    exact(hh e _ _ _ _ _ hk).wl (m4 ht hc hyl hn hs (gC ht hc hyl hh hn h k))
   ·cases h
  ·split at h
   ·rename_i hs
    exact m4 ht hc hyl hn hs (gC ht hc hyl hh hn h k)
   ·cases h
end
def eqV:Value→Value→Bool
 | .int k a, .int k' b=>decide (k=k')&&decide (a=b)
 | .bool a, .bool b=>a==b
 | .slice none 0 0, .slice none 0 0=>true
 | .pointer none, .pointer none=>true
 | .map none, .map none=>true
 | .tuple a, .tuple b=>a.toList.isEmpty&&b.toList.isEmpty
 | .string a, .string b=>a.data.toList==b.data.toList
 |_,_=>false
theorem qZ:∀{a b:Value},eqV a b=true→a=b:=by
 intro a b h
 unfold eqV at h
 split at h
 ·simp only[Bool.and_eq_true,decide_eq_true_eq] at h
  rw[h.1,h.2]
 ·simp only[beq_iff_eq] at h
  rw[h]
 ·rfl
 ·rfl
 ·rfl
 ·rename_i a b
  obtain⟨a⟩:=a;obtain⟨b⟩:=b
  rw[Bool.and_eq_true,List.isEmpty_iff,List.isEmpty_iff] at h
  simp only at h
  rw[h.1,h.2]
 ·rename_i a b
  rw[beq_iff_eq] at h
  have:a=b:=by
   obtain⟨⟨a⟩⟩:=a;obtain⟨⟨b⟩⟩:=b
   simp only at h
   rw[h]
  rw[this]
 ·cases h
mutual
def eqD:D→D→Bool
 | .v a, .v b=>eqV a b
 | .sl a, .sl b=>eqDss a b
 | .pc a, .pc b=>eqDs a b
 | .ag a, .ag b=>eqDs a b
 | .tu a, .tu b=>eqDs a b
 |_,_=>false
def eqDs:List D→List D→Bool
 |[],[]=>true
 |x::a,y::b=>eqD x y&&eqDs a b
 |_,_=>false
def eqDss:List (List D)→List (List D)→Bool
 |[],[]=>true
 |x::a,y::b=>eqDs x y&&eqDss a b
 |_,_=>false
end
mutual
theorem m5:∀{a b:D},eqD a b=true→a=b
 | .v a,b,h=>by
  cases b<;>first|(simp only[eqD] at h;rw[qZ h])|simp[eqD] at h
 | .sl a,b,h=>by
  cases b<;>first|(simp only[eqD] at h;rw[eqDss_ok h])|simp[eqD] at h
 | .pc a,b,h=>by
  cases b<;>first|(simp only[eqD] at h;rw[eqDs_ok h])|simp[eqD] at h
 | .ag a,b,h=>by
  cases b<;>first|(simp only[eqD] at h;rw[eqDs_ok h])|simp[eqD] at h
 | .tu a,b,h=>by
  cases b<;>first|(simp only[eqD] at h;rw[eqDs_ok h])|simp[eqD] at h
 | .ifc t a,b,h=>by simp[eqD] at h
 | .fnc f a c,b,h=>by simp[eqD] at h
theorem eqDs_ok:∀{a b:List D},eqDs a b=true→a=b
 |[],b,h=>by cases b with
  |nil=>rfl
  |cons y b=>simp[eqDs] at h
 |x::a,b,h=>by cases b with
  |nil=>simp[eqDs] at h
  |cons y b=>
   simp only[eqDs,Bool.and_eq_true] at h
   rw[m5 h.1,eqDs_ok h.2]
theorem eqDss_ok:∀{a b:List (List D)},eqDss a b=true→a=b
 |[],b,h=>by cases b with
  |nil=>rfl
  |cons y b=>simp[eqDss] at h
 |x::a,b,h=>by cases b with
  |nil=>simp[eqDss] at h
  |cons y b=>
   simp only[eqDss,Bool.and_eq_true] at h
   rw[eqDs_ok h.1,eqDss_ok h.2]
end
mutual
def l7:AV→AV→Bool
 | .u, .u=>true
 | .d a, .d b=>eqD a b
 | .pt i o, .pt j p=>Nat.beq i j&&Nat.beq o p
 | .os i o, .os j p=>Nat.beq i j&&Nat.beq o p
 | .pe i v o, .pe j u p=>Nat.beq i j&&(Nat.beq v u&&Nat.beq o p)
 | .ag a, .ag b=>eqAVs a b
 | .tu a, .tu b=>eqAVs a b
 | .mp i, .mp j=>Nat.beq i j
 | .fn (.func f) a c, .fn (.func g) b d=>Nat.beq f g&&(eqAVs a b&&eqAVs c d)
 |_,_=>false
def eqAVs:List AV→List AV→Bool
 |[],[]=>true
 |x::a,y::b=>l7 x y&&eqAVs a b
 |_,_=>false
end
mutual
theorem fV:∀{a b:AV},l7 a b=true→a=b:=by
 intro a b h
 unfold l7 at h
 split at h
 ·rfl
 ·rw[m5 h]
 ·simp only[Bool.and_eq_true] at h
  rw[nbE h.1,nbE h.2]
 ·simp only[Bool.and_eq_true] at h
  rw[nbE h.1,nbE h.2]
 ·simp only[Bool.and_eq_true] at h
  rw[nbE h.1,nbE h.2.1,nbE h.2.2]
 ·rw[eqAVs_ok h]
 ·rw[eqAVs_ok h]
 ·rw[nbE h]
 ·simp only[Bool.and_eq_true] at h
  rw[nbE h.1,eqAVs_ok h.2.1,eqAVs_ok h.2.2]
 ·cases h
theorem eqAVs_ok:∀{a b:List AV},eqAVs a b=true→a=b:=by
 intro a b h
 unfold eqAVs at h
 split at h
 ·rfl
 ·simp only[Bool.and_eq_true] at h
  rw[fV h.1,eqAVs_ok h.2]
 ·cases h
end
theorem rp{c a:Bool}(h:(bif c then a else false)=true):c=true∧a=true:=by
 cases c
 ·cases h
 ·exact⟨rfl,h⟩
def tY:List (Value×Nat)→List (Value×Nat)→Bool
 |[],[]=>true
 |x::xs,y::ys=>eqV x.1 y.1&&(Nat.beq x.2 y.2&&tY xs ys)
 |_,_=>false
theorem ob:∀{a b:List (Value×Nat)},tY a b=true→a=b
 |[],[],_=>rfl
 |(x,n)::xs,(y,k)::ys,h=>by
  simp only[tY,Bool.and_eq_true] at h
  rw[qZ h.1,nbE h.2.1,ob h.2.2]
 |[],_::_,h=>by cases h
 |_::_,[],h=>by cases h
def tX:List Nat→List Nat→Bool
 |[],[]=>true
 |x::xs,y::ys=>Nat.beq x y&&tX xs ys
 |_,_=>false
theorem oa:∀{a b:List Nat},tX a b=true→a=b
 |[],[],_=>rfl
 |x::xs,y::ys,h=>by
  simp only[tX,Bool.and_eq_true] at h
  rw[nbE h.1,oa h.2]
 |[],_::_,h=>by cases h
 |_::_,[],h=>by cases h
def eqq(x y:AV):Bool:=match x,y with
 | .d (.v (.int k a)), .d (.v (.int k' b))=>bif decide (k=k') then decide (a=b) else false
 | .os i o, .os j p=>Nat.beq i j&&Nat.beq o p
 |x,y=>l7 x y
theorem vP{x y:AV}(h:eqq x y=true):x=y:=by
 unfold eqq at h
 split at h
 ·obtain⟨h1,h2⟩:=rp h
  rw[of_decide_eq_true h1,of_decide_eq_true h2]
 ·rw[Bool.and_eq_true] at h
  rw[nbE h.1,nbE h.2]
 ·exact fV h
def o9:List AV→List AV→Bool
 |[],[]=>true
 |x::xs,y::ys=>bif eqq x y then o9 xs ys else false
 |_,_=>false
theorem kJ:∀{a b:List AV},o9 a b=true→a=b
 |[],[],_=>rfl
 |x::xs,y::ys,h=>by
  obtain⟨h1,h2⟩:=rp (show(bif eqq x y then o9 xs ys else false)=true from h)
  rw[vP h1,kJ h2]
 |[],_::_,h=>by cases h
 |_::_,[],h=>by cases h
def n9:List (List AV)→List (List AV)→Bool
 |[],[]=>true
 |x::xs,y::ys=>bif o9 x y then n9 xs ys else false
 |_,_=>false
theorem l6:∀{a b:List (List AV)},n9 a b=true→a=b
 |[],[],_=>rfl
 |x::xs,y::ys,h=>by
  obtain⟨h1,h2⟩:=rp (show(bif o9 x y then n9 xs ys else false)=true from h)
  rw[kJ h1,l6 h2]
 |[],_::_,h=>by cases h
 |_::_,[],h=>by cases h
def q8:AO→AO→Bool
 | .row T cs, .row T' cs'=>Nat.beq T T'&&o9 cs cs'
 | .os T k v es, .os T' k' v' es'=>Nat.beq T T'&&(Nat.beq k k'&&(Nat.beq v v'&&n9 es es'))
 | .mb es xs c, .mb es' xs' c'=>Nat.beq c c'&&(tY es es'&&eqAVs xs xs')
 | .it s a b c, .it s' a' b' c'=>l7 s s'&&(Nat.beq a a'&&(Nat.beq c c'&&tX b b'))
 | .dead, .dead=>true
 | .rsv, .rsv=>true
 |_,_=>false
theorem oc{a b:AO}(h:q8 a b=true):a=b:=by
 unfold q8 at h
 split at h
 ·rw[Bool.and_eq_true] at h
  rw[nbE h.1,kJ h.2]
 ·simp only[Bool.and_eq_true] at h
  rw[nbE h.1,nbE h.2.1,nbE h.2.2.1,l6 h.2.2.2]
 ·simp only[Bool.and_eq_true] at h
  rw[nbE h.1,ob h.2.1,eqAVs_ok h.2.2]
 ·simp only[Bool.and_eq_true] at h
  rw[fV h.1,nbE h.2.1,nbE h.2.2.1,oa h.2.2.2]
 ·rfl
 ·rfl
 ·cases h
def dv:List AO→List AO→Bool
 |[],[]=>true
 |x::xs,y::ys=>q8 x y&&dv xs ys
 |_,_=>false
theorem cX:∀{a b:List AO},dv a b=true→a=b
 |[],[],_=>rfl
 |x::xs,y::ys,h=>by
  simp only[dv,Bool.and_eq_true] at h
  rw[oc h.1,cX h.2]
 |[],_::_,h=>by cases h
 |_::_,[],h=>by cases h
theorem kD{F:Env}:∀{env:Env}{t:Nat}{x:AV},env.get t=some x→(env++F).get t=some x
 |[],t,x,h=>by cases h
 |(k,v)::env,t,x,h=>by
  show(bif Nat.beq t k then some v else Env.get (env++F) t)=some x
  have h:(bif Nat.beq t k then some v else Env.get env t)=some x:=h
  cases hb:Nat.beq t k with
  |true=>rw[hb] at h;exact h
  |false=>rw[hb] at h;exact kD h
theorem EnvOk.app{m:List Cz}{φ:Nat→Nat}{w:World}{env F:Env}{a:Act}(h:EnvOk m φ w (env++F) a):EnvOk m φ w env a:=⟨λt x hx=>h.get t x (kD hx),h.gl⟩
theorem ko{env F:Env}{x:Operand}{r:AV}(h:opv env x=some r):opv (env++F) x=some r:=by
 cases x with
 |tmp t=>exact kD h
 |_=>exact h
section
variable{P:Program}{env F:Env}{st st':List AO}{o:Oper}{r:AV}
theorem Yields.app(h:Yields P env st o r):Yields P (env++F) st o r:=λm φ a w hs he=>h m φ a w hs he.app
theorem Does.app(h:Does P env st o r st'):Does P (env++F) st o r st':=λm φ a w hs he=>h m φ a w hs he.app
end
theorem iM{env F:Env}:∀{l:List Operand}{xs:List AV},aX env l=some xs→aX (env++F) l=some xs
 |[],xs,h=>h
 |x::l,xs,h=>by
  unfold aX at h⊢
  split at h
  ·rename_i h1 h2
   rw[ko h1,iM h2]
   exact h
  ·cases h
theorem Wt.app{ops:Array Oper}{env F:Env}{o:Oper}{b:Bool}(h:Wt ops env o b):Wt ops (env++F) o b:=λm φ w a he=>h m φ w a he.app
def gp(o:Oper)(r:AV)(env:Env):Env:=match o.dst with
 |some d=>(d,r)::env
 |none=>env
class PC(P:Program) where
 pc:FuncId→List AV→Option AV
 ok:∀f asz r st,pc f asz=some r→Ctr P f asz st (λr' s'=>r'=r∧s'=st)
def purX(P:Program)[PC P](env:Env):Op→Option AV
 | .call c=>(match c.callee with
  | .value x=>(match opv env x,aX env c.args.toList with
   |some (.fn (.func f) first caps),some asz=>PC.pc P f (first++asz++caps)
   |_,_=>none)
  |_=>none)
 |_=>none
def exP(P:Program)[PC P](t:Ty)(ops:Array Oper)(env:Env)(st:List AO)(o:Oper):Option AV:=
 match eI ops env o.guard with
 |none=>none
 |some false=>some (.d (.v undef))
 |some true=>match tN P t ops env st o with
  |some r=>(match o.dst with
   |some _=>some r
   |none=>none)
  |none=>(match purX P env o.op with
   |some r=>(match o.dst with
    |some _=>some r
    |none=>none)
   |none=>none)
def kH(P:Program)[PC P](t:Ty)(call:ap)(ops:Array Oper)(env:Env)(st:List AO)(o:Oper):Option (AV×List AO):=
 match exP P t ops env st o with
 |some r=>some (r,st)
 |none=>match eI ops env o.guard with
  |some true=>(match exD P env st o.op with
   |some rs=>some rs
   |none=>(match oo call env st o.op,o.dst with
    |some rs,some _=>some rs
    |_,_=>none))
  |_=>none
section
variable{P:Program}[PC P]{t:Ty}{call:ap}{e:En}{ops:Array Oper}{l:List Oper}{R:Env→List AO→Prop}{env F:Env}{st st':List AO}{o:Oper}{r:AV}
theorem mZ(ht:t.ok P=true)(hd:∀d,o.dst=some d→Nat.ble (d+1) e.n=true)(h:exP P t ops env st o=some r)(k:WL P e ops l (gp o r (env++F)) st R):WL P e ops (o::l) (env++F) st R:=by
 unfold exP at h
 split at h
 ·cases h
 ·rename_i hw
  obtain rfl:=inS h
  unfold gp at k
  split at k
  ·rename_i d hdd;exact WL.skip (bf hw).app hdd (hd d hdd) k
  ·rename_i hdd;exact WL.skip0 (bf hw).app hdd k
 ·rename_i hw
  split at h
  ·rename_i r' hr
   split at h
   ·rename_i d hdd
    obtain rfl:=inS h
    unfold gp at k
    rw[hdd] at k
    obtain⟨od,oop,oty,opos,oaf,og⟩:=o
    exact WL.q (qV ht (jR hr)).app (bt hw).app hdd (hd d hdd) k
   ·cases h
  ·split at h
   ·rename_i r' hr
    split at h
    ·rename_i d hdd
     obtain rfl:=inS h
     unfold gp at k
     rw[hdd] at k
     unfold purX at hr
     split at hr
     ·rename_i c hop
      split at hr
      ·rename_i x hx
       split at hr
       ·rename_i f first caps asz hf has
        refine WL.call (Q:=λa b=>a=r'∧b=st) hop hx (ko hf) (iM has) (PC.ok _ _ _ _ hr) (Les.refl _) (bt hw).app hdd (hd d hdd) λa b hq=>?_
        obtain⟨rfl,rfl⟩:=hq
        exact k
       ·cases hr
      ·cases hr
     ·cases hr
    ·cases h
   ·cases h
theorem ie(ht:t.ok P=true)(hc:aE P call)(hd:∀d,o.dst=some d→Nat.ble (d+1) e.n=true)(h:kH P t call ops env st o=some (r,st'))(k:WL P e ops l (gp o r (env++F)) st' R):WL P e ops (o::l) (env++F) st R:=by
 unfold kH at h
 split at h
 ·rename_i hp
  simp only[aa,Prod.mk.injEq] at h
  obtain⟨rfl,rfl⟩:=h
  exact mZ ht hd hp k
 ·split at h
  ·rename_i hw
   have hw:=(bt hw).app (F:=F)
   split at h
   ·rename_i rs hr
    obtain rfl:=inS h
    unfold gp at k
    split at k
    ·rename_i d hdd
     obtain⟨od,oop,oty,opos,oaf,og⟩:=o
     exact WL.s (kI hr).app hw hdd (hd d hdd) k
    ·rename_i hdd
     obtain⟨od,oop,oty,opos,oaf,og⟩:=o
     exact WL.s0 (kI hr).app hw hdd k
   ·split at h
    ·rename_i rs d hr hdd
     obtain rfl:=inS h
     unfold gp at k
     rw[hdd] at k
     unfold oo at hr
     split at hr
     ·rename_i c hop
      split at hr
      ·rename_i x hx
       split at hr
       ·rename_i f first caps asz hf has
        refine WL.call (Q:=λr' s'=>r'=r∧s'=st') hop hx (ko hf) (iM has) (hc _ _ _ _ _ hr) (Les.refl _) hw hdd (hd d hdd) λr' s' hq=>?_
        obtain⟨rfl,rfl⟩:=hq
        exact k
       ·cases hr
      ·cases hr
     ·cases hr
    ·cases h
  ·cases h
end
def opT:List Operand→List Nat
 |[]=> []
 | .tmp t::l=>t::opT l
 |_::l=>opT l
def opsOf:Op→List Operand
 | .move x=> [x]
 | .assign x=> [x]
 | .pick c x y=> [c,x,y]
 | .load _ x=> [x]
 | .fieldAddr _ x _=> [x]
 | .field _ x _=> [x]
 | .nilCheck x=> [x]
 | .extract x _=> [x]
 | .unOp _ _ x=> [x]
 | .binOp _ _ x y _=> [x,y]
 | .convert _ _ x=> [x]
 | .makeFunc _ a b=>a.toList++b.toList
 | .indexAddr _ x y=> [x,y]
 | .index _ x y=> [x,y]
 | .box _ x=> [x]
 | .store _ x y=> [x,y]
 | .makeSlice _ x y=> [x,y]
 | .buildSlice _ _ ps=>ps.toList.map (·.2)
 | .build _ ps=>ps.toList.map (·.2)
 | .lookup _ x k _=> [x,k]
 | .insert _ x k v=> [x,k,v]
 | .mapUpdate _ x k v=> [x,k,v]
 | .range _ x=> [x]
 | .entry x=> [x]
 | .slice _ x lo hi _=>x::(lo.toList++hi.toList)
 | .call c=>(match c.callee with
  | .value x=>x::c.args.toList
  |_=>c.args.toList)
 |_=> []
def nP(x:Nat):List Oper→Nat→Nat→Option Nat→Option Nat
 |o::l,n+1,j,acc=>nP x l n (j+1) (match o.dst with
  |some d=>bif Nat.beq d x then some j else acc
  |none=>acc)
 |_,_,_,acc=>acc
def bP(l:List Oper)(k:Nat):List Nat→List Nat×List Nat
 |[]=>([],[])
 |x::xs=>match nP x l k 0 none,bP l k xs with
  |some j,(a,b)=>(j::a,b)
  |none,(a,b)=>(a,x::b)
def aJ(l:List Oper)(o:Oper):List Nat:=(match o.guard with
 |some (j,_)=>(match(l[j]?).bind (·.dst) with
  |some d=> [d]
  |none=> [])
 |none=> [])++opT (opsOf o.op)
def csX(tc:List (List Nat))(es:List Nat)(k:Nat):List Nat:=(List.range (es.length+1)).filter λc=>
 !(match es[c]? with
  |some y=>(tc.getD k []).contains y
  |none=>false)&& !((es.take c).any λy=>Nat.beq y k||(tc.getD y []).contains k)
def fH(l:List Oper)(tc:List (List Nat))(es:List Nat):Nat→List Oper→List (List Nat×List Nat×List Nat)
 |_,[]=> []
 |k,o::ol=>let p:=bP l k (aJ l o);(p.1,p.2,csX tc es k)::fH l tc es (k+1) ol
def gx:Op→Bool
 | .call _=>true
 |_=>false
def okR(o:Oper)(rs:List AV)(k:Nat)(r:AV):Bool:=match o.dst with
 |some _=>(match rs[k]? with
  |some r'=>l7 r r'
  |none=>false)
 |none=>true
section
variable{P:Program}[PC P]{t:Ty}{nt:Nat}{call:ap}{e:En}{l:List Oper}{rs:List AV}{base:Env}{es:List Nat}{L:List (List AO)}
theorem ii{ops:Array Oper}{env:Env}{st' stc:List AO}{o:Oper}{k:Nat}{r:AV}(hr:okR o rs k r=true)(hst:st'=stc):
  WL P e ops [] (gp o r env) st' (λenv' st''=>st''=stc∧∃pre,env'=pre++env∧(∀t x,pre.get t=some x→o.dst=some t)∧∀d' r',o.dst=some d'→rs[k]? =some r'→pre.get d'=some r'):=by
 unfold okR at hr
 unfold gp
 split at hr
 ·rename_i d hd
  split at hr
  ·rename_i r' hr'
   obtain rfl:=fV hr
   rw[hd]
   have:=ga (P:=P) (e:=e) (ops:=ops) (env:=env) hd hr' hst
   rw[hd] at this
   exact this
  ·cases hr
 ·rename_i hd
  rw[hd]
  have:=dw (P:=P) (e:=e) (rs:=rs) (ops:=ops) (env:=env) (k:=k) hd hst
  rw[hd] at this
  exact this
end
def cn(es:List Nat)(k:Nat):Nat:=(es.filter λy=>Nat.blt y k).length
def gV(P:Program)[PC P](t:Ty)(q:Bool)(call:ap)(l:List Oper)(base:Env):List Oper→Nat→List AV→List Nat→List (List AO)→List AO→Option (List AV×List Nat×List (List AO))
 |[],_,rs,es,L,_=>some (rs,es,L)
 |o::ol,k,rs,es,L,st=>bif (bP l k (aJ l o)).1.all (λj=>Nat.blt j k) then
   aL (bQ l rs base (bP l k (aJ l o)).1 (bP l k (aJ l o)).2) (λev=>match exP P t l.toArray ev st o with
   |some r=>aL (rs++ [r]) λrs'=>gV P t q call l base ol (k+1) rs' es L st
   |none=>(match kH P t call l.toArray ev st o with
    |some (r,st')=>bif q&&(gx o.op&&dv st' st) then aL (rs++ [r]) λrs'=>gV P t q call l base ol (k+1) rs' es L st
     else aL (rs++ [r]) λrs'=>aL (es++ [k]) λes'=>aL (L++ [st']) λL'=>gV P t q call l base ol (k+1) rs' es' L' st'
    |none=>none)) else none
def kW(P:Program)[PC P](t:Ty)(call:ap)(l:List Oper)(base:Env)(rs:List AV)(es:List Nat)(L:List (List AO))(j:Nat)(o:Oper):Prop:=
 ∃r,kH P t call l.toArray (bQ l rs base (bP l j (aJ l o)).1 (bP l j (aJ l o)).2) (L.getD (cn es j) []) o=some (r,L.getD (bif es.contains j then cn es j+1 else cn es j) [])∧rs[j]? =some r
section
variable{P:Program}[PC P]{t:Ty}{call:ap}{l:List Oper}{base:Env}
theorem oe{rs rs':List AV}{tail:Env}:∀{pk:List Nat},(∀j∈pk,j<rs.length)→ekP l (rs++rs') tail pk=ekP l rs tail pk
 |[],_=>rfl
 |j::pk,h=>by
  have h1:eko l (rs++rs') j=eko l rs j:=by
   unfold eko
   rw[List.getElem?_append_left (h j List.mem_cons_self)]
  unfold ekP
  rw[h1,oe λj' hj=>h j' (List.mem_cons_of_mem _ hj)]
theorem fW{rs rs':List AV}{pk bk:List Nat}(h:∀j∈pk,j<rs.length):bQ l (rs++rs') base pk bk=bQ l rs base pk bk:=oe h
theorem fX{es es':List Nat}{k:Nat}(h1:∀y∈es,y<k)(h2:∀y∈es',k≤y):cn (es++es') k=es.length:=by
 unfold cn
 rw[List.filter_append,List.filter_eq_self.2 (λy hy=>by simpa[Nat.blt_eq] using h1 y hy),List.filter_eq_nil_iff.2 (λy hy=>by have:=h2 y hy;simp[Nat.blt_eq];omega)]
 simp
theorem fQ{α:Type}{L L':List α}{n:Nat}{d:α}(h:n<L.length):(L++L').getD n d=L.getD n d:=by
 rw[List.getD_eq_getElem?_getD,List.getD_eq_getElem?_getD,List.getElem?_append_left h]
theorem l5{ops:Array Oper}{env:Env}{st:List AO}{o:Oper}{r:AV}(h:exP P t ops env st o=some r):kH P t call ops env st o=some (r,st):=by
 unfold kH;rw[h]
theorem iI{q:Bool}:∀{ol:List Oper}{k:Nat}{rs:List AV}{es:List Nat}{L:List (List AO)}{st:List AO}{rsF:List AV}{esF:List Nat}{LF:List (List AO)},gV P t q call l base ol k rs es L st=some (rsF,esF,LF)→
  ol=l.drop k→rs.length=k→(∀y∈es,y<k)→L.length=es.length+1→L.getD es.length []=st→
  (∃rs',rsF=rs++rs'∧rs'.length=ol.length)∧(∃es',esF=es++es'∧∀y∈es',k≤y)∧(∃L',LF=L++L')∧LF.length=esF.length+1∧∀(j:Nat)(o:Oper),k≤j→l[j]? =some o→kW P t call l base rsF esF LF j o
 |[],k,rs,es,L,st,rsF,esF,LF,h,hol,hrs,hes,hL,hst=>by
  simp only[gV,aa,Prod.mk.injEq] at h
  obtain⟨rfl,rfl,rfl⟩:=h
  refine⟨⟨[],sM,rfl⟩,⟨[],sM,λy hy=>by cases hy⟩,⟨[],sM⟩,hL,λj o hj ho=>?_⟩
  have:l.length≤k:=by
   have:=congrArg List.length hol
   rw[List.length_drop] at this
   simp at this
   omega
  have:=(giS.1 ho).1
  omega
 |o::ol,k,rs,es,L,st,rsF,esF,LF,h,hol,hrs,hes,hL,hst=>by
  unfold gV at h
  obtain⟨hpk,h⟩:=ay h
  simp only[aU] at h
  have hpk':∀j∈(bP l k (aJ l o)).1,j<rs.length:=λj hj=>by
   have:=List.all_eq_true.1 hpk j hj
   rw[hrs]
   simpa[Nat.blt_eq] using this
  have hok:l[k]? =some o:=by
   have:(l.drop k)[0]? =some o:=by rw[←hol];rfl
   simpa using this
  have hol':ol=l.drop (k+1):=by
   have:(o::ol).drop 1=(l.drop k).drop 1:=by rw[hol]
   rw[List.drop_drop] at this
   simpa[Nat.add_comm] using this
  have hes1:∀y∈es,y<k+1:=λy hy=>Nat.lt_succ_of_lt (hes y hy)
  -- a quiet operation
  have quiet:∀{r:AV},kH P t call l.toArray (bQ l rs base (bP l k (aJ l o)).1 (bP l k (aJ l o)).2) st o=some (r,st)→gV P t q call l base ol (k+1) (rs++ [r]) es L st=some (rsF,esF,LF)→
    (∃rs',rsF=rs++rs'∧rs'.length=(o::ol).length)∧(∃es',esF=es++es'∧∀y∈es',k≤y)∧(∃L',LF=L++L')∧LF.length=esF.length+1∧∀(j:Nat)(o:Oper),k≤j→l[j]? =some o→kW P t call l base rsF esF LF j o:=λ{r} he hp=>by
   obtain⟨⟨rs',e1,e2⟩,⟨es',e3,e4⟩,⟨L',e5⟩,e6,e7⟩:=iI hp hol' (by simp[hrs]) hes1 hL hst
   refine⟨⟨r::rs',by rw[e1];simp,by simp[e2]⟩,⟨es',e3,λy hy=>Nat.le_of_succ_le (e4 y hy)⟩,⟨L',e5⟩,e6,λj o' hj ho'=>?_⟩
   rcases Nat.lt_or_ge k j with hj'|hj'
   ·exact e7 j o' hj' ho'
   ·have:j=k:=oM
    subst this
    rw[hok] at ho'
    obtain rfl:=inS ho'
    have hc:cn esF j=es.length:=by rw[e3];exact fX hes λy hy=>Nat.le_of_succ_le (e4 y hy)
    have hn:esF.contains j=false:=by
     rw[e3,List.contains_eq_mem,decide_eq_false_iff_not,List.mem_append]
     rintro(hm|hm)
     ·exact absurd (hes j hm) (Nat.lt_irrefl _)
     ·exact absurd (e4 j hm) oM
    refine⟨r,?_,by rw[e1,List.append_assoc,List.getElem?_append_right oM,hrs];simp⟩
    rw[hn,cdF,hc,e5,fQ oM,hst,e1,List.append_assoc,fW hpk']
    exact he
  split at h
  ·rename_i r hr
   exact quiet (l5 hr) h
  ·split at h
   ·rename_i r st' hr
    cases hq:q&&(gx o.op&&dv st' st) with
    |true=>
     rw[hq,cdT] at h
     rw[Bool.and_eq_true,Bool.and_eq_true] at hq
     have:=cX hq.2.2
     subst this
     exact quiet hr h
    |false=>
     rw[hq,cdF] at h
     obtain⟨⟨rs',e1,e2⟩,⟨es',e3,e4⟩,⟨L',e5⟩,e6,e7⟩:=iI h hol' (by simp[hrs]) (λy hy=>by
      rcases List.mem_append.1 hy with hy|hy
      ·exact hes1 y hy
      ·rw[List.mem_singleton.1 hy];exact Nat.lt_succ_self k) (by simp[hL]) (by rw[List.length_append,List.getD_eq_getElem?_getD,List.getElem?_append_right (by simp;omega)];simp[hL])
     refine⟨⟨r::rs',by rw[e1];simp,by simp[e2]⟩,⟨k::es',by rw[e3];simp,λy hy=>?_⟩,⟨st'::L',by rw[e5];simp⟩,e6,λj o' hj ho'=>?_⟩
     ·rcases List.mem_cons.1 hy with rfl|hy
      ·exact Nat.le_refl _
      ·exact Nat.le_of_succ_le (e4 y hy)
     ·rcases Nat.lt_or_ge k j with hj'|hj'
      ·exact e7 j o' hj' ho'
      ·have:j=k:=oM
       subst this
       rw[hok] at ho'
       obtain rfl:=inS ho'
       have e3':esF=es++(j::es'):=by rw[e3];simp
       have e5':LF=L++(st'::L'):=by rw[e5];simp
       have hc:cn esF j=es.length:=by
        rw[e3']
        refine fX hes λy hy=>?_
        rcases List.mem_cons.1 hy with rfl|hy
        ·exact Nat.le_refl _
        ·exact Nat.le_of_succ_le (e4 y hy)
       have hn:esF.contains j=true:=by rw[e3',List.contains_eq_mem,decide_eq_true_eq];simp
       refine⟨r,?_,by rw[e1,List.append_assoc,List.getElem?_append_right oM,hrs];simp⟩
       rw[hn,cdT,hc,e1,List.append_assoc,fW hpk']
       have h1:LF.getD es.length []=st:=by rw[e5',fQ oM,hst]
       have h2:LF.getD (es.length+1) []=st':=by
        rw[e5',List.getD_eq_getElem?_getD,List.getElem?_append_right oM]
        simp[hL]
       rw[h1,h2]
       exact hr
   ·cases h
end
def pa(nt:Nat)(o:Oper):Bool:=match o.dst with
 |some d=>Nat.ble (d+1) nt
 |none=>true
def vY(P:Program)[PC P](t:Ty)(call:ap)(l:List Oper)(rs:List AV)(base:Env)(es:List Nat)(L:List (List AO))(k:Nat)(o:Oper)(p:List Nat×List Nat×List Nat)(c:Nat):Bool:=
 Nat.beq c (cn es k)||(!(es.contains k)&&(match exP P t l.toArray (bQ l rs base p.1 p.2.1) (L.getD c []) o with
  |some r=>okR o rs k r
  |none=>(match kH P t call l.toArray (bQ l rs base p.1 p.2.1) (L.getD c []) o with
   |some (r,st')=>okR o rs k r&&dv st' (L.getD c [])
   |none=>false)))
def se(P:Program)[PC P](t:Ty)(nt:Nat)(call:ap)(l:List Oper)(rs:List AV)(base:Env)(es:List Nat)(L:List (List AO)):Nat→List Oper→List (List Nat×List Nat×List Nat)→Bool
 |k,o::ol,p::ps=>pa nt o&&((p.2.2.all λc=>vY P t call l rs base es L k o p c)&&se P t nt call l rs base es L (k+1) ol ps)
 |_,_,_=>true
section
variable{P:Program}[PC P]{t:Ty}{nt:Nat}{call:ap}{e:En}{l:List Oper}{rs:List AV}{base:Env}{es:List Nat}{L:List (List AO)}
theorem jG{tc:List (List Nat)}:∀{ol:List Oper}{k j:Nat}{o:Oper},ol[j]? =some o→(fH l tc es k ol)[j]? =some ((bP l (k+j) (aJ l o)).1,(bP l (k+j) (aJ l o)).2,csX tc es (k+j))
 |o0::ol,k,0,o,h=>by
  obtain rfl:=inS h
  rfl
 |o0::ol,k,j+1,o,h=>by
  have:=jG (tc:=tc) (ol:=ol) (k:=k+1) (j:=j) (o:=o) (by simpa using h)
  rw[show k+(j+1)=k+1+j by omega]
  exact this
 |[],_,_,_,h=>by simp at h
theorem oh{ops:Array Oper}{env:Env}{st' stc:List AO}{o:Oper}{k:Nat}{r:AV}(hr:rs[k]? =some r)(hst:st'=stc):
  WL P e ops [] (gp o r env) st' (λenv' st''=>st''=stc∧∃pre,env'=pre++env∧(∀t x,pre.get t=some x→o.dst=some t)∧∀d' r',o.dst=some d'→rs[k]? =some r'→pre.get d'=some r'):=by
 unfold gp
 split
 ·rename_i d hd
  have:=ga (P:=P) (e:=e) (ops:=ops) (env:=env) hd hr hst
  rw[hd] at this
  rw[hd]
  exact this
 ·rename_i hd
  have:=dw (P:=P) (e:=e) (rs:=rs) (ops:=ops) (env:=env) (k:=k) hd hst
  rw[hd] at this
  rw[hd]
  exact this
theorem nL{sts:Nat→List AO}{k:Nat}{o:Oper}{pk bk:List Nat}{up:Bool}:∀{cs:List Nat},(∀c∈cs,Ob P e l rs base sts k o pk bk c (bif up then c+1 else c))→ObC P e l rs base sts k o pk bk up cs
 |[],_=>trivial
 |c::cs,h=>⟨h c List.mem_cons_self,nL λc' hc=>h c' (List.mem_cons_of_mem _ hc)⟩
theorem t9(ht:t.ok P=true)(hc:aE P call)(hn:e.n=nt){k c:Nat}{o:Oper}{p:List Nat×List Nat×List Nat}(hp:kW P t call l base rs es L k o)(hpp:p.1=(bP l k (aJ l o)).1∧p.2.1=(bP l k (aJ l o)).2)(h0:pa nt o=true)
  (h:vY P t call l rs base es L k o p c=true):Ob P e l rs base (λc=>L.getD c []) k o p.1 p.2.1 c (bif es.contains k then c+1 else c):=λF=>by
 have hd:∀d,o.dst=some d→Nat.ble (d+1) e.n=true:=λd hd=>by unfold pa at h0;rw[hd] at h0;rw[hn];exact h0
 unfold vY at h
 rw[Bool.or_eq_true] at h
 rcases h with h|h
 ·have:=nbE h
  subst this
  obtain⟨r,h1,h2⟩:=hp
  rw[hpp.1,hpp.2]
  exact ie ht hc hd h1 (oh h2 rfl)
 ·rw[Bool.and_eq_true,Bool.not_eq_true'] at h
  rw[h.1,cdF]
  have h:=h.2
  split at h
  ·rename_i r hr
   exact mZ ht hd hr (ii h rfl)
  ·split at h
   ·rename_i r st' hr
    rw[Bool.and_eq_true] at h
    exact ie ht hc hd hr (ii h.1 (cX h.2))
   ·cases h
theorem nJ(ht:t.ok P=true)(hc:aE P call)(hn:e.n=nt){tc:List (List Nat)}(hp:∀(j:Nat)(o:Oper),l[j]? =some o→kW P t call l base rs es L j o):∀{ol:List Oper}{ps:List (List Nat×List Nat×List Nat)}{k:Nat},ol=l.drop k→ps=(fH l tc es 0 l).drop k→se P t nt call l rs base es L k ol ps=true→
  Obs P e l rs base (λc=>L.getD c []) es k ol ps
 |[],_,_,_,_,_=>trivial
 |_::_,[],_,_,_,_=>trivial
 |o::ol,p::ps,k,h1,h2,h=>by
  unfold se at h
  rw[Bool.and_eq_true,Bool.and_eq_true] at h
  have ho:l[k]? =some o:=by
   have:(l.drop k)[0]? =some o:=by rw[←h1];rfl
   simpa using this
  have hpl:(fH l tc es 0 l)[k]? =some p:=by
   have:((fH l tc es 0 l).drop k)[0]? =some p:=by rw[←h2];rfl
   simpa using this
  have hpe:p=((bP l k (aJ l o)).1,(bP l k (aJ l o)).2,csX tc es k):=by
   have:=jG (l:=l) (tc:=tc) (es:=es) (k:=0) ho
   rw[Nat.zero_add,hpl] at this
   exact inS this
  have h1':ol=l.drop (k+1):=by
   have:(o::ol).drop 1=(l.drop k).drop 1:=by rw[h1]
   rw[List.drop_drop] at this
   simpa[Nat.add_comm] using this
  have h2':ps=(fH l tc es 0 l).drop (k+1):=by
   have:(p::ps).drop 1=((fH l tc es 0 l).drop k).drop 1:=by rw[h2]
   rw[List.drop_drop] at this
   simpa[Nat.add_comm] using this
  exact⟨nL λc hcm=>t9 ht hc hn (hp k o ho) (by rw[hpe];exact⟨rfl,rfl⟩) h.1 (List.all_eq_true.1 h.2.1 c hcm),nJ ht hc hn hp h1' h2' h.2.2⟩
end
theorem mE{F:Fence}{n:Nat}{P:Program}{Q:Exit→Act→World→Prop}{a:Act}{w:World}{c:Code}(hg:∀l a w,¬Q (.goto l) a w)(h:c.wpIn F n P Q a w):(Code.scope c).wpIn F n P Q a w:=by
 intro b k cs hro hb hr
 have h0:(lone (b.atR a (.code (.scope c)::k)) cs w).fenced P F:=fenced_calm hb hr rfl
 have s1:step P (lone (b.atR a (.code (.scope c)::k)) cs w)= .next (lone (b.atR a (.code c:: .inScope c::k)) cs w):=step_lone_go (by simp[stepG,stepG.exec,Frame.atR])
 have s2:∀a w,step P (lone (b.atR a (.inScope c::k)) cs w)= .next (lone (b.atR a k) cs w):=λa w=>step_lone_go (by simp[stepG,stepG.exec,Frame.atR])
 obtain⟨e,a₁,w₁,hq,harr⟩:=h b (.inScope c::k) cs hro hb hr
 cases e with
 |normal=>exact⟨.normal,a₁,w₁,hq, .head h0 s1 (StepsIn.trans harr (.one (fenced_calm hb hr rfl) (s2 _ _)))⟩
 |exit id=>
  have hx:exitTo id (.inScope c::k)=exitTo id k:=by simp[exitTo]
  exact⟨.exit id,a₁,w₁,hq,λk' hk=> .head h0 s1 (harr.1 k' (by rw[hx];exact hk)),
   λhr' hk=>let ⟨k₁,h1,h2⟩:=harr.2 hr' (by rw[hx];exact hk);⟨k₁,h1, .head h0 s1 h2⟩⟩
 |goto l=>exact(hg _ _ _ hq).elim
 |ret=>exact⟨_,a₁,w₁,hq, .of_steps (.one h0 s1) harr⟩
 |panic ch=>exact⟨_,a₁,w₁,hq, .of_steps (.one h0 s1) harr⟩
 |outgrown=>exact⟨_,a₁,w₁,hq, .of_steps (.one h0 s1) harr⟩
theorem Ko.den_goto{P:Program}{e:En}{l:Nat}(he:e.rd=none):∀(k:Ko)(a:Act)(w:World),¬k.den P e (.goto l) a w
 | .fin fn Q,a,w,h=>h
 | .finP fn Q QP,a,w,h=>h
 | .seq c k,a,w,h=>Ko.den_goto he k a w h
 | .blk id k,a,w,h=>Ko.den_goto he k a w h
 | .lp J k,a,w,h=>Ko.den_goto he k a w h
 | .rend Q,a,w,h=>by
  obtain⟨m,φ,w0,n,rd,ds⟩:=e
  dsimp only at he
  subst he
  exact h
 | .asg b k,a,w,h=>h
 | .rl n c k,a,w,h=>Ko.den_goto he k a w h
theorem pT{P:Program}{e:En}{c:Code}{k:Ko}{env:Env}{st:List AO}(he:e.rd=none)(h:WC P e c k env st):WC P e (.scope c) k env st:=λm φ a w hi=>mE (λ_ _ _ h=>k.den_goto he _ _ h) (h m φ a w hi)
theorem pV{P:Program}{e:En}{l:Nat}{k:Ko}{env:Env}{st:List AO}(h:WE P e .normal k env st):WC P e (.label l) k env st:=λm φ a w hi=>wpIn_label (h m φ a w hi)
theorem qT{m φ w m' φ' w'}{st1:List AO}{obj:AO}{id:Nat}{c:Cz}(hm:m.length≤st1.length)(hid:st1[id]? =some .rsv)(hlt:da st1.length (st1++ [obj])=true)(he:Ev m φ w m' φ' w')(hs':SR m' φ' (st1++ [obj]) w')(hc:m'[st1.length]? =some c):
  Ev m φ w ((m'.take st1.length).set id c) φ' w'∧SR ((m'.take st1.length).set id c) φ' (st1.set id obj) w'∧((m'.take st1.length).set id c)[id]? =some c∧Pre (m'.take st1.length) ((m'.take st1.length).set id c):=by
 have hidl:=(giS.1 hid).1
 have hml:m'.length=st1.length+1:=by rw[hs'.len];simp
 have htl:(m'.take st1.length).length=st1.length:=by rw[List.length_take,hml];omega
 have hnon:m'[id]? =some .non:=by
  have h1:(st1++ [obj])[id]? =some .rsv:=by rw[List.getElem?_append_left hidl];exact hid
  obtain⟨c',h2⟩:∃c',m'[id]? =some c':=⟨_,geG oM⟩
  have:=hs'.obj id _ c' h1 h2
  simp only[OR] at this
  rw[h2,this]
 have hget:∀i,i≠id→i<st1.length→((m'.take st1.length).set id c)[i]? =m'[i]? :=λi hi hil=>by
  rw[List.getElem?_set_ne (Ne.symm hi),List.getElem?_take,if_pos hil]
 have hself:((m'.take st1.length).set id c)[id]? =some c:=by rw[List.getElem?_set_self (by rw[htl];exact hidl)]
 have hpre:Pre (m'.take st1.length) ((m'.take st1.length).set id c):=λi x hx=>by
  by_cases hi:i=id
  ·subst hi
   rw[List.getElem?_take,if_pos hidl,hnon] at hx
   simp only[aa] at hx
   subst hx
   exact⟨c,hself,trivial⟩
  ·exact⟨x,by rw[List.getElem?_set_ne (Ne.symm hi)];exact hx,Cz.le_refl x⟩
 have old:∀(i:Nat)(o:AO)(x:Cz),(st1.set id obj)[i]? =some o→((m'.take st1.length).set id c)[i]? =some x→∃j,(st1++ [obj])[j]? =some o∧m'[j]? =some x∧(i=id∧j=st1.length∨i≠id∧j=i∧i<st1.length):=λi o x h1 h2=>by
  by_cases hi:i=id
  ·subst hi
   rw[List.getElem?_set_self hidl] at h1
   rw[hself] at h2
   simp only[aa] at h1 h2
   subst h1;subst h2
   exact⟨st1.length,sM,hc, .inl ⟨rfl,rfl⟩⟩
  ·rw[List.getElem?_set_ne (Ne.symm hi)] at h1
   have hil:=(giS.1 h1).1
   rw[hget i hi hil] at h2
   exact⟨i,by rw[List.getElem?_append_left hil];exact h1,h2, .inr ⟨hi,rfl,hil⟩⟩
 refine⟨⟨λi x hx=>?_,λb hb=>?_,he.os,he.tape,he.output,he.size,he.keep,he.fz⟩,⟨by rw[List.length_set,List.length_set,htl],λi o x h1 h2=>?_,hs'.lt,λi j o o' x x' b h1 h2 l1 l2 g1 g2 b1 b2=>?_,hs'.gl,λb hb=>?_⟩,hself,hpre⟩
 rotate_right
 ·obtain⟨i,x,h1,h2⟩:=hb
  by_cases hi:i=id
  ·subst hi
   rw[hself] at h1
   simp only[aa] at h1
   subst h1
   exact hs'.nb b ⟨_,_,hc,h2⟩
  ·rw[List.getElem?_set_ne (Ne.symm hi),List.getElem?_take] at h1
   split at h1
   ·exact hs'.nb b ⟨_,_,h1,h2⟩
   ·cases h1
 ·have hil:i<st1.length:=Nat.lt_of_lt_of_le (giS.1 hx).1 hm
  obtain⟨y,hy,hle⟩:=he.pre i x hx
  obtain⟨z,hz,hle2⟩:=hpre i y (by rw[List.getElem?_take,if_pos hil];exact hy)
  exact⟨z,hz,Cz.le_trans hle hle2⟩
 ·obtain⟨i,x,h1,h2⟩:=hb
  by_cases hi:i=id
  ·subst hi
   rw[hself] at h1
   simp only[aa] at h1
   subst h1
   exact he.new b ⟨_,_,hc,h2⟩
  ·rw[List.getElem?_set_ne (Ne.symm hi),List.getElem?_take] at h1
   split at h1
   ·exact he.new b ⟨_,_,h1,h2⟩
   ·cases h1
 ·obtain⟨j,h3,h4,_⟩:=old i o x h1 h2
  have h5:=OR.take (n:=st1.length) (cv hlt h3) (hs'.obj j o x h3 h4)
  exact h5.congr hpre (Fz.refl _ _) (λ_ _=>⟨rfl,rfl⟩)
 ·obtain⟨i',p1,p2,p3⟩:=old i o x h1 g1
  obtain⟨j',q1,q2,q3⟩:=old j o' x' h2 g2
  have:=hs'.inj i' j' o o' x x' b p1 q1 l1 l2 p2 q2 b1 b2
  rcases p3 with⟨rfl,rfl⟩|⟨hi,rfl,hil⟩<;>rcases q3 with⟨rfl,rfl⟩|⟨hj,rfl,hjl⟩
  ·rfl
  ·omega
  ·omega
  ·exact this
mutual
def dr(n id:Nat):AV→Option AV
 | .ag ps=>(renAs n id ps).map .ag
 | .tu ps=>(renAs n id ps).map .tu
 | .os m v=>bif Nat.beq m n then some (.os id v) else(bif Nat.ble (m+1) n then some (.os m v) else none)
 | .pt m off=>bif Nat.beq m n then some (.pt id off) else(bif Nat.ble (m+1) n then some (.pt m off) else none)
 |x=>bif x.lt n then some x else none
def renAs(n id:Nat):List AV→Option (List AV)
 |[]=>some []
 |x::xs=>match dr n id x,renAs n id xs with
  |some y,some ys=>some (y::ys)
  |_,_=>none
end
section
variable{m:List Cz}{φ:Nat→Nat}{w:World}{n id:Nat}{c:Cz}
mutual
theorem nE(hc:m[n]? =some c)(hp:Pre (m.take n) ((m.take n).set id c))(hs:((m.take n).set id c)[id]? =some c):∀(x:AV)(v:Value)(y:AV),dr n id x=some y→RA m φ w x v→RA ((m.take n).set id c) φ w y v
 | .ag ps,v,y,h,hr=>by
  simp only[dr,Option.map_eq_some_iff] at h
  obtain⟨qs,h1,rfl⟩:=h
  simp only[RA] at hr⊢
  obtain⟨cs,rfl,h2⟩:=hr
  exact⟨cs,rfl,renAs_ok hc hp hs ps _ qs h1 h2⟩
 | .tu ps,v,y,h,hr=>by
  simp only[dr,Option.map_eq_some_iff] at h
  obtain⟨qs,h1,rfl⟩:=h
  simp only[RA] at hr⊢
  obtain⟨cs,rfl,h2⟩:=hr
  exact⟨cs,rfl,renAs_ok hc hp hs ps _ qs h1 h2⟩
 | .os k ver,v,y,h,hr=>by
  simp only[dr] at h
  cases hb:Nat.beq k n with
  |true=>
   rw[hb,cdT] at h
   obtain rfl:=inS h
   obtain rfl:=nbE hb
   simp only[RA] at hr⊢
   obtain⟨ver0,y0,q1,q2⟩:=hr
   rw[hc] at q1
   exact⟨ver0,y0,hs.trans q1,q2⟩
  |false=>
   rw[hb,cdF] at h
   obtain⟨hl,h⟩:=ay h
   obtain rfl:=inS h
   exact RA.mono hp (Fz.refl _ _) _ _ (RA.take _ _ (by simpa only[AV.lt] using hl) hr)
 | .pt k off,v,y,h,hr=>by
  simp only[dr] at h
  cases hb:Nat.beq k n with
  |true=>
   rw[hb,cdT] at h
   obtain rfl:=inS h
   obtain rfl:=nbE hb
   simp only[RA] at hr⊢
   obtain⟨b,q1,q2⟩:=hr
   rw[hc] at q1
   exact⟨b,hs.trans q1,q2⟩
  |false=>
   rw[hb,cdF] at h
   obtain⟨hl,h⟩:=ay h
   obtain rfl:=inS h
   exact RA.mono hp (Fz.refl _ _) _ _ (RA.take _ _ (by simpa only[AV.lt] using hl) hr)
 | .d x,v,y,h,hr=>by
  simp only[dr] at h
  obtain⟨hl,h⟩:=ay h
  obtain rfl:=inS h
  exact RA.mono hp (Fz.refl _ _) _ _ (RA.take _ _ hl hr)
 | .u,v,y,h,hr=>by
  simp only[dr] at h
  obtain⟨hl,h⟩:=ay h
  obtain rfl:=inS h
  exact RA.mono hp (Fz.refl _ _) _ _ (RA.take _ _ hl hr)
 | .sr a b c d,v,y,h,hr=>by
  simp only[dr] at h
  obtain⟨hl,h⟩:=ay h
  obtain rfl:=inS h
  exact RA.mono hp (Fz.refl _ _) _ _ (RA.take _ _ hl hr)
 | .mp a,v,y,h,hr=>by
  simp only[dr] at h
  obtain⟨hl,h⟩:=ay h
  obtain rfl:=inS h
  exact RA.mono hp (Fz.refl _ _) _ _ (RA.take _ _ hl hr)
 | .pe a b c,v,y,h,hr=>by
  simp only[dr] at h
  obtain⟨hl,h⟩:=ay h
  obtain rfl:=inS h
  exact RA.mono hp (Fz.refl _ _) _ _ (RA.take _ _ hl hr)
 | .fn a b c,v,y,h,hr=>by
  simp only[dr] at h
  obtain⟨hl,h⟩:=ay h
  obtain rfl:=inS h
  exact RA.mono hp (Fz.refl _ _) _ _ (RA.take _ _ hl hr)
 | .ow a b c d e,v,y,h,hr=>by
  simp only[dr] at h
  obtain⟨hl,h⟩:=ay h
  obtain rfl:=inS h
  exact RA.mono hp (Fz.refl _ _) _ _ (RA.take _ _ hl hr)
 | .ifc a b,v,y,h,hr=>by
  simp only[dr] at h
  obtain⟨hl,h⟩:=ay h
  obtain rfl:=inS h
  exact RA.mono hp (Fz.refl _ _) _ _ (RA.take _ _ hl hr)
 | .osf a b c,v,y,h,hr=>by
  simp only[dr] at h
  obtain⟨hl,h⟩:=ay h
  obtain rfl:=inS h
  exact RA.mono hp (Fz.refl _ _) _ _ (RA.take _ _ hl hr)
 | .pem a b c d,v,y,h,hr=>by
  simp only[dr] at h
  obtain⟨hl,h⟩:=ay h
  obtain rfl:=inS h
  exact RA.mono hp (Fz.refl _ _) _ _ (RA.take _ _ hl hr)
 | .yl a,v,y,h,hr=>by
  simp only[dr] at h
  obtain⟨hl,h⟩:=ay h
  obtain rfl:=inS h
  exact RA.mono hp (Fz.refl _ _) _ _ (RA.take _ _ hl hr)
 | .fs a,v,y,h,hr=>by
  simp only[dr] at h
  obtain⟨hl,h⟩:=ay h
  obtain rfl:=inS h
  exact RA.mono hp (Fz.refl _ _) _ _ (RA.take _ _ hl hr)
 | .kv a b,v,y,h,hr=>by
  simp only[dr] at h
  obtain⟨hl,h⟩:=ay h
  obtain rfl:=inS h
  exact RA.mono hp (Fz.refl _ _) _ _ (RA.take _ _ hl hr)
theorem renAs_ok(hc:m[n]? =some c)(hp:Pre (m.take n) ((m.take n).set id c))(hs:((m.take n).set id c)[id]? =some c):∀(xs:List AV)(vs:List Value)(ys:List AV),renAs n id xs=some ys→RAs m φ w xs vs→RAs ((m.take n).set id c) φ w ys vs
 |[],vs,ys,h,hr=>by
  simp only[renAs,aa] at h
  subst h
  simpa[RAs] using hr
 |x::xs,vs,ys,h,hr=>by
  simp only[renAs] at h
  split at h
  ·rename_i z zs h1 h2
   obtain rfl:=inS h
   simp only[RAs] at hr⊢
   obtain⟨a,asz,rfl,h3,h4⟩:=hr
   exact⟨a,asz,rfl,nE hc hp hs x a z h1 h3,renAs_ok hc hp hs xs asz zs h2 h4⟩
  ·cases h
end
end
def lZ(k:Nat):List Nat→AV→List AO→Option (AV×List AO)
 |[],r,st=>some (r,st)
 |id::ids,r,st=>match st.getLast? with
  |some obj=>(match st.dropLast[id]? with
   |some .rsv=>bif Nat.ble k st.dropLast.length&&da st.dropLast.length st then(match dr st.dropLast.length id r with
    |some r'=>lZ k ids r' (st.dropLast.set id obj)
    |none=>none) else none
   |_=>none)
  |none=>none
theorem lY{m:List Cz}{φ:Nat→Nat}{w:World}{φ':Nat→Nat}{w':World}{v:Value}:∀{ids:List Nat}{m':List Cz}{r:AV}{st:List AO}{r':AV}{st':List AO},lZ m.length ids r st=some (r',st')→
  Ev m φ w m' φ' w'→SR m' φ' st w'→RA m' φ' w' r v→∃m'',Ev m φ w m'' φ' w'∧SR m'' φ' st' w'∧RA m'' φ' w' r' v
 |[],m',r,st,r',st',h,he,hs,hr=>by
  simp only[lZ,aa,Prod.mk.injEq] at h
  obtain⟨rfl,rfl⟩:=h
  exact⟨m',he,hs,hr⟩
 |id::ids,m',r,st,r',st',h,he,hs,hr=>by
  unfold lZ at h
  split at h
  ·rename_i obj ho
   split at h
   ·rename_i hid
    obtain⟨hb,h⟩:=ay h
    rw[Bool.and_eq_true] at hb
    split at h
    ·rename_i r2 hr2
     have hst:st=st.dropLast++ [obj]:=by
      obtain⟨ys,hy⟩:=List.getLast?_eq_some_iff.1 ho
      rw[hy];simp
     have hlen:m'.length=st.dropLast.length+1:=by
       rw[hs.len];conv=>lhs;rw[hst]
       simp
     obtain⟨c,hc⟩:∃c,m'[st.dropLast.length]? =some c:=⟨_,geG oM⟩
     obtain⟨g1,g2,g3,g4⟩:=qT (obj:=obj) (nbT hb.1) hid (by rw[←hst];exact hb.2) he (by rw[←hst];exact hs) hc
     exact lY h g1 g2 (nE hc g4 g3 r v r2 hr2 hr)
    ·cases h
   ·cases h
  ·cases h
def vH(call:ap)(ids:List Nat):ap:=match ids with
 |[]=>call
 |_=>λf asz st=>match call f asz st with
  |some (r,st')=>lZ st.length ids.reverse r st'
  |none=>none
theorem n5{P:Program}{call:ap}(hc:aE P call):∀{ids:List Nat},aE P (vH call ids)
 |[]=>hc
 |i::ids=>λf asz st r st' h=>by
  unfold vH at h
  dsimp only at h
  split at h
  ·rename_i r1 st1 hx
   obtain⟨h1,h2⟩:=hc _ _ _ _ _ hx
   refine⟨h1,λm φ w vs hs ha=>(h2 m φ w vs hs ha).mono ?_⟩
   rintro en w' ⟨v,r2,st2,m',φ',rfl,⟨rfl,rfl⟩,hev,hsr,hra⟩
   rw[←hs.len] at h
   obtain⟨m'',e1,e2,e3⟩:=lY h hev hsr hra
   exact⟨v,_,_,m'',φ',rfl,⟨rfl,rfl⟩,e1,e2,e3⟩
  ·cases h
def brX(P:Program)(env:Env)(st:List AO):Op→Option (AV×AO)
 | .alloc T=>match ao P T with
  |some vs=>some (.pt st.length 0, .row T (vs.map λv=> .d (.v v)))
  |none=>none
 | .box T x=>match opv env x with
  |some r=>bif r.okS st then some (.pt st.length 0, .row T r.cells) else none
  |none=>none
 | .buildSlice T len parts=>match bW P T,aX env (parts.toList.map (·.2)) with
  |some (e,k,_),some xs=>(match ao P e with
   |some zs=>bif Nat.beq zs.length k&&(decide (len*k≤16777216)&&(Nat.blt 0 (len*k)&&(decide (parts.toList.map (·.1)=List.range len)&&((xs.all λx=>x.okS st&&Nat.beq x.cells.length k)&&decide (len≤maxLen)))))
    then some (.os st.length 0, .os e k 0 (xs.map AV.cells)) else none
   |none=>none)
  |_,_=>none
 |_=>none
section
variable{P:Program}{env:Env}{st:List AO}{dst:Option Tmp}{ty:TypeId}{pos:String}{after:Array Edge}{guard:Option (Nat×Bool)}
theorem vZ{op:Op}{r:AV}{obj:AO}(h:brX P env st op=some (r,obj)):DoesB P env st ⟨dst,op,ty,pos,after,guard⟩ r (st++ [obj]):=by
 unfold brX at h
 split at h
 ·split at h
  ·rename_i hz
   simp only[aa,Prod.mk.injEq] at h
   obtain⟨rfl,rfl⟩:=h
   exact kP hz
  ·cases h
 ·split at h
  ·rename_i hx
   obtain⟨hc,h⟩:=ay h
   simp only[aa,Prod.mk.injEq] at h
   obtain⟨rfl,rfl⟩:=h
   exact rq hx hc
  ·cases h
 ·split at h
  ·rename_i hT hx
   split at h
   ·rename_i hz
    obtain⟨hc,h⟩:=ay h
    simp only[aa,Prod.mk.injEq] at h
    obtain⟨rfl,rfl⟩:=h
    simp only[Bool.and_eq_true,decide_eq_true_eq] at hc
    obtain⟨c1,c2,c3,c4,c5,c6⟩:=hc
    exact(eL hT hz (nbE c1) c2 (nbT c3) c4 hx c5 c6).b
   ·cases h
  ·cases h
 ·cases h
def rnX(n id:Nat):AV→Option AV
 | .pt m off=>bif Nat.beq m n then some (.pt id off) else none
 | .os m v=>bif Nat.beq m n then some (.os id v) else none
 |_=>none
def qU(P:Program)(env:Env)(st:List AO)(id:Nat)(op:Op):Option (AV×List AO):=match brX P env st op with
 |some (r,obj)=>(match st[id]?,rnX st.length id r with
  |some .rsv,some r2=>bif da st.length (st++ [obj]) then some (r2,st.set id obj) else none
  |_,_=>none)
 |none=>none
theorem lX{op:Op}{id:Nat}{r:AV}{st':List AO}(h:qU P env st id op=some (r,st')):Does P env st ⟨dst,op,ty,pos,after,guard⟩ r st':=by
 unfold qU at h
 split at h
 ·rename_i r0 obj hb
  split at h
  ·rename_i r2 hid hr
   obtain⟨hlt,h⟩:=ay h
   simp only[aa,Prod.mk.injEq] at h
   obtain⟨rfl,rfl⟩:=h
   refine(DoesB.fill (vZ hb) id hid hlt ?_).does
   unfold rnX at hr
   split at hr
   ·rename_i m off
    obtain⟨hm,hr⟩:=ay hr
    obtain rfl:=inS hr
    obtain rfl:=nbE hm
    exact .inl ⟨off,rfl,rfl⟩
   ·rename_i m v
    obtain⟨hm,hr⟩:=ay hr
    obtain rfl:=inS hr
    obtain rfl:=nbE hm
    exact .inr (.inl ⟨v,rfl,rfl⟩)
   ·cases hr
  ·cases h
 ·cases h
end
def vj(o:Oper):Bool:=match o.guard,o.op with
 |none, .alloc _=>true
 |none, .box _ _=>true
 |none, .buildSlice _ n _=>Nat.blt 0 n
 |_,_=>false
def rZ:List Nat→Nat→List (List Nat)
 |[],_=> []
 |c::l,n=>(List.range c).map (λi=>n+i)::rZ l (n+c)
def fU(P:Program)[PC P](t:Ty)(call:ap)(l:List Oper)(ids:List (List Nat))(k:Nat)(ev:Env)(st:List AO)(o:Oper):Option (Bool×AV×List AO):=
 match exP P t l.toArray ev st o with
 |some r=>some (true,r,st)
 |none=>match(match ids.getD k [] with
  |[id]=>qU P ev st id o.op
  |_=>none) with
  |some (r,s)=>(match eI l.toArray ev o.guard with
   |some true=>some (false,r,s)
   |_=>none)
  |none=>(match kH P t (vH call (ids.getD k [])) l.toArray ev st o with
   |some (r,s)=>bif gx o.op&&dv s st then some (true,r,st) else some (false,r,s)
   |none=>none)
section
variable{P:Program}[PC P]{t:Ty}{call:ap}{e:En}{l:List Oper}{R:Env→List AO→Prop}{env F:Env}{st st':List AO}{o:Oper}{r:AV}{ids:List (List Nat)}{k:Nat}{q:Bool}
theorem kG(ht:t.ok P=true)(hc:aE P call)(hd:∀d,o.dst=some d→Nat.ble (d+1) e.n=true)(h:fU P t call l ids k env st o=some (q,r,st'))(kk:WL P e l.toArray [] (gp o r (env++F)) st' R):WL P e l.toArray [o] (env++F) st R:=by
 unfold fU at h
 split at h
 ·rename_i hp
  simp only[aa,Prod.mk.injEq] at h
  obtain⟨_,rfl,rfl⟩:=h
  exact mZ ht hd hp kk
 ·split at h
  ·rename_i r0 s0 hf
   split at h
   ·rename_i hw
    simp only[aa,Prod.mk.injEq] at h
    obtain⟨_,rfl,rfl⟩:=h
    split at hf
    ·have hw:=(bt hw).app (F:=F)
     unfold gp at kk
     split at kk
     ·rename_i d hdd
      obtain⟨od,oop,oty,opos,oaf,og⟩:=o
      exact WL.s (lX hf).app hw hdd (hd d hdd) kk
     ·rename_i hdd
      obtain⟨od,oop,oty,opos,oaf,og⟩:=o
      exact WL.s0 (lX hf).app hw hdd kk
    ·cases hf
   ·cases h
  ·split at h
   ·rename_i r' s' he
    cases hb:gx o.op&&dv s' st with
    |true=>
     rw[hb,cdT] at h
     simp only[aa,Prod.mk.injEq] at h
     obtain⟨_,rfl,rfl⟩:=h
     rw[Bool.and_eq_true] at hb
     have:=cX hb.2
     subst this
     exact ie ht (n5 hc) hd he kk
    |false=>
     rw[hb,cdF] at h
     simp only[aa,Prod.mk.injEq] at h
     obtain⟨_,rfl,rfl⟩:=h
     exact ie ht (n5 hc) hd he kk
   ·cases h
theorem qY(h:fU P t call l ids k env st o=some (true,r,st')):st'=st:=by
 unfold fU at h
 split at h
 ·simp only[aa,Prod.mk.injEq] at h
  exact h.2.2.symm
 ·split at h
  ·split at h
   ·simp at h
   ·cases h
  ·split at h
   ·rename_i r' s' he
    cases hb:gx o.op&&dv s' st with
    |true=>
     rw[hb,cdT] at h
     simp only[aa,Prod.mk.injEq] at h
     exact h.2.2.symm
    |false=>rw[hb,cdF] at h;simp at h
   ·cases h
end
abbrev Ex1:=Nat→Env→List AO→Oper→Option (Bool×AV×List AO)
def iK(ex:Ex1)(l:List Oper)(base:Env):List Oper→Nat→List AV→List Nat→List (List AO)→List AO→Option (List AV×List Nat×List (List AO))
 |[],_,rs,es,L,_=>some (rs,es,L)
 |o::ol,k,rs,es,L,st=>bif (bP l k (aJ l o)).1.all (λj=>Nat.blt j k) then
   (match ex k (bQ l rs base (bP l k (aJ l o)).1 (bP l k (aJ l o)).2) st o with
   |some (true,r,_)=>aL (rs++ [r]) λrs'=>iK ex l base ol (k+1) rs' es L st
   |some (false,r,st')=>aL (rs++ [r]) λrs'=>aL (es++ [k]) λes'=>aL (L++ [st']) λL'=>iK ex l base ol (k+1) rs' es' L' st'
   |none=>none) else none
def rF(ex:Ex1)(l:List Oper)(base:Env)(rs:List AV)(es:List Nat)(L:List (List AO))(j:Nat)(o:Oper):Prop:=
 ∃q r,ex j (bQ l rs base (bP l j (aJ l o)).1 (bP l j (aJ l o)).2) (L.getD (cn es j) []) o=some (q,r,L.getD (bif es.contains j then cn es j+1 else cn es j) [])∧rs[j]? =some r
section
variable{ex:Ex1}{l:List Oper}{base:Env}
theorem iJ(hquiet:∀{k:Nat}{ev:Env}{st:List AO}{o:Oper}{r:AV}{st':List AO},ex k ev st o=some (true,r,st')→st'=st):∀{ol:List Oper}{k:Nat}{rs:List AV}{es:List Nat}{L:List (List AO)}{st:List AO}{rsF:List AV}{esF:List Nat}{LF:List (List AO)},iK ex l base ol k rs es L st=some (rsF,esF,LF)→
  ol=l.drop k→rs.length=k→(∀y∈es,y<k)→L.length=es.length+1→L.getD es.length []=st→
  (∃rs',rsF=rs++rs'∧rs'.length=ol.length)∧(∃es',esF=es++es'∧∀y∈es',k≤y)∧(∃L',LF=L++L')∧LF.length=esF.length+1∧∀(j:Nat)(o:Oper),k≤j→l[j]? =some o→rF ex l base rsF esF LF j o
 |[],k,rs,es,L,st,rsF,esF,LF,h,hol,hrs,hes,hL,hst=>by
  simp only[iK,aa,Prod.mk.injEq] at h
  obtain⟨rfl,rfl,rfl⟩:=h
  refine⟨⟨[],sM,rfl⟩,⟨[],sM,λy hy=>by cases hy⟩,⟨[],sM⟩,hL,λj o hj ho=>?_⟩
  have:l.length≤k:=by
   have:=congrArg List.length hol
   rw[List.length_drop] at this
   simp at this
   omega
  have:=(giS.1 ho).1
  omega
 |o::ol,k,rs,es,L,st,rsF,esF,LF,h,hol,hrs,hes,hL,hst=>by
  unfold iK at h
  obtain⟨hpk,h⟩:=ay h
  simp only[aU] at h
  have hpk':∀j∈(bP l k (aJ l o)).1,j<rs.length:=λj hj=>by
   have:=List.all_eq_true.1 hpk j hj
   rw[hrs]
   simpa[Nat.blt_eq] using this
  have hok:l[k]? =some o:=by
   have:(l.drop k)[0]? =some o:=by rw[←hol];rfl
   simpa using this
  have hol':ol=l.drop (k+1):=by
   have:(o::ol).drop 1=(l.drop k).drop 1:=by rw[hol]
   rw[List.drop_drop] at this
   simpa[Nat.add_comm] using this
  have hes1:∀y∈es,y<k+1:=λy hy=>Nat.lt_succ_of_lt (hes y hy)
  split at h
  ·rename_i r st' hr
   have hs:=hquiet hr
   subst hs
   obtain⟨⟨rs',e1,e2⟩,⟨es',e3,e4⟩,⟨L',e5⟩,e6,e7⟩:=iJ hquiet h hol' (by simp[hrs]) hes1 hL hst
   refine⟨⟨r::rs',by rw[e1];simp,by simp[e2]⟩,⟨es',e3,λy hy=>Nat.le_of_succ_le (e4 y hy)⟩,⟨L',e5⟩,e6,λj o' hj ho'=>?_⟩
   rcases Nat.lt_or_ge k j with hj'|hj'
   ·exact e7 j o' hj' ho'
   ·have:j=k:=oM
    subst this
    rw[hok] at ho'
    obtain rfl:=inS ho'
    have hc:cn esF j=es.length:=by rw[e3];exact fX hes λy hy=>Nat.le_of_succ_le (e4 y hy)
    have hn:esF.contains j=false:=by
     rw[e3,List.contains_eq_mem,decide_eq_false_iff_not,List.mem_append]
     rintro(hm|hm)
     ·exact absurd (hes j hm) (Nat.lt_irrefl _)
     ·exact absurd (e4 j hm) oM
    refine⟨true,r,?_,by rw[e1,List.append_assoc,List.getElem?_append_right oM,hrs];simp⟩
    rw[hn,cdF,hc,e5,fQ oM,hst,e1,List.append_assoc,fW hpk']
    exact hr
  ·rename_i r st' hr
   obtain⟨⟨rs',e1,e2⟩,⟨es',e3,e4⟩,⟨L',e5⟩,e6,e7⟩:=iJ hquiet h hol' (by simp[hrs]) (λy hy=>by
    rcases List.mem_append.1 hy with hy|hy
    ·exact hes1 y hy
    ·rw[List.mem_singleton.1 hy];exact Nat.lt_succ_self k) (by simp[hL]) (by rw[List.length_append,List.getD_eq_getElem?_getD,List.getElem?_append_right (by simp;omega)];simp[hL])
   refine⟨⟨r::rs',by rw[e1];simp,by simp[e2]⟩,⟨k::es',by rw[e3];simp,λy hy=>?_⟩,⟨st'::L',by rw[e5];simp⟩,e6,λj o' hj ho'=>?_⟩
   ·rcases List.mem_cons.1 hy with rfl|hy
    ·exact Nat.le_refl _
    ·exact Nat.le_of_succ_le (e4 y hy)
   ·rcases Nat.lt_or_ge k j with hj'|hj'
    ·exact e7 j o' hj' ho'
    ·have:j=k:=oM
     subst this
     rw[hok] at ho'
     obtain rfl:=inS ho'
     have e3':esF=es++(j::es'):=by rw[e3];simp
     have e5':LF=L++(st'::L'):=by rw[e5];simp
     have hc:cn esF j=es.length:=by
      rw[e3']
      refine fX hes λy hy=>?_
      rcases List.mem_cons.1 hy with rfl|hy
      ·exact Nat.le_refl _
      ·exact Nat.le_of_succ_le (e4 y hy)
     have hn:esF.contains j=true:=by rw[e3',List.contains_eq_mem,decide_eq_true_eq];simp
     refine⟨false,r,?_,by rw[e1,List.append_assoc,List.getElem?_append_right oM,hrs];simp⟩
     rw[hn,cdT,hc,e1,List.append_assoc,fW hpk']
     have h1:LF.getD es.length []=st:=by rw[e5',fQ oM,hst]
     have h2:LF.getD (es.length+1) []=st':=by
      rw[e5',List.getD_eq_getElem?_getD,List.getElem?_append_right oM]
      simp[hL]
     rw[h1,h2]
     exact hr
  ·cases h
end
def chN:List Bool→Option Nat
 |[]=>some 0
 |true::c=>(match chN c with
  |some n=>some (n+1)
  |none=>none)
 |false::c=>bif c.all (λb=> !b) then some 0 else none
theorem pj:∀n,chN (List.replicate n false)=some 0
 |0=>rfl
 |n+1=>by
  have h:(List.replicate n false).all (λb=> !b)=true:=sM
  rw[List.replicate_succ,chN,h,cdT]
theorem mf:∀n,chN (List.replicate n true)=some n
 |0=>rfl
 |n+1=>by rw[List.replicate_succ,chN,mf n]
def qF:List Bool→Nat→Option Nat→Option Nat
 |[],_,a=>a
 |true::c,i,_=>qF c (i+1) (some i)
 |false::c,i,a=>qF c (i+1) a
def ut(c:List Bool):List (List Bool×List AO)→Option (List AO)
 |[]=>none
 |(k,st)::r=>bif k==c then some st else ut c r
def stS(L:List (List AO))(tb:List (List Bool×List AO))(c:List Bool):List AO:=match chN c with
 |some i=>L.getD i []
 |none=>(match ut c tb with
  |some st=>st
  |none=> [])
def badB(tc:List (List Nat))(es:List Nat)(c:List Bool):Bool:=(es.zip c).any λp=>p.2&&(es.zip c).any λq=> !q.2&&(tc.getD p.1 []).contains q.1
def badK(tc:List (List Nat))(es:List Nat)(k:Nat)(c:List Bool):Bool:=(es.zip c).any λp=>(p.2&&(Nat.beq p.1 k||(tc.getD p.1 []).contains k))||(!p.2&&(tc.getD k []).contains p.1)
def tbS(ex:Ex1)(l:List Oper)(rs:List AV)(base:Env)(es:List Nat)(L:List (List AO))(tc:List (List Nat)):List (List Bool)→List (List Bool×List AO)→List (List Bool×List AO)
 |[],tb=>tb
 |c::cs,tb=>bif (chN c).isSome||badB tc es c then tbS ex l rs base es L tc cs tb else(match qF c 0 none with
  |some i=>(match es[i]? with
   |some k=>(match l[k]? with
    |some o=>(match ex k (bQ l rs base (bP l k (aJ l o)).1 (bP l k (aJ l o)).2) (stS L tb (c.set i false)) o with
     |some (_,_,st')=>aL st' λst'=>tbS ex l rs base es L tc cs ((c,st')::tb)
     |none=>tb)
    |none=>tb)
   |none=>tb)
  |none=>tb)
def csS(tc:List (List Nat))(es:List Nat)(k:Nat):List (List Bool):=(kS es.length).filter λc=> !(badK tc es k c)&& !(badB tc es c)
def fJ(l:List Oper)(tc:List (List Nat))(es:List Nat):Nat→List Oper→List (List Nat×List Nat×List (List Bool))
 |_,[]=> []
 |k,o::ol=>let p:=bP l k (aJ l o);(p.1,p.2,csS tc es k)::fJ l tc es (k+1) ol
def vX(ex:Ex1)(l:List Oper)(rs:List AV)(base:Env)(es:List Nat)(L:List (List AO))(tb:List (List Bool×List AO))(k:Nat)(o:Oper)(pk bk:List Nat)(c:List Bool):Bool:=
 (chN c==some (cn es k)&&chN (upB k es c)==some (bif es.contains k then cn es k+1 else cn es k))||
  (match ex k (bQ l rs base pk bk) (stS L tb c) o with
  |some (true,r,_)=>okR o rs k r&&upB k es c==c
  |some (false,r,st')=>okR o rs k r&&dv st' (stS L tb (upB k es c))
  |none=>false)
def sf(ex:Ex1)(nt:Nat)(l:List Oper)(rs:List AV)(base:Env)(es:List Nat)(L:List (List AO))(tb:List (List Bool×List AO)):Nat→List Oper→List (List Nat×List Nat×List (List Bool))→Bool
 |k,o::ol,p::ps=>pa nt o&&((p.2.2.all λc=>vX ex l rs base es L tb k o p.1 p.2.1 c)&&sf ex nt l rs base es L tb (k+1) ol ps)
 |_,_,_=>true
theorem jH{l:List Oper}{es:List Nat}{tc:List (List Nat)}:∀{ol:List Oper}{k j:Nat}{o:Oper},ol[j]? =some o→(fJ l tc es k ol)[j]? =some ((bP l (k+j) (aJ l o)).1,(bP l (k+j) (aJ l o)).2,csS tc es (k+j))
 |o0::ol,k,0,o,h=>by
  obtain rfl:=inS h
  rfl
 |o0::ol,k,j+1,o,h=>by
  have:=jH (l:=l) (es:=es) (tc:=tc) (ol:=ol) (k:=k+1) (j:=j) (o:=o) (by simpa using h)
  rw[show k+(j+1)=k+1+j by omega]
  exact this
 |[],_,_,_,h=>by simp at h
theorem lw{P:Program}{e:En}{l:List Oper}{rs:List AV}{base:Env}{es:List Nat}{sts:List Bool→List AO}{k:Nat}{o:Oper}{pk bk:List Nat}:∀{cs:List (List Bool)},(∀c∈cs,ObT P e l rs base (sts c) (sts (upB k es c)) k o pk bk)→rG P e l rs base sts es k o pk bk cs
 |[],_=>trivial
 |c::cs,h=>⟨h c List.mem_cons_self,lw λc' hc=>h c' (List.mem_cons_of_mem _ hc)⟩
section
variable{P:Program}[PC P]{t:Ty}{nt:Nat}{call:ap}{e:En}{l:List Oper}{rs:List AV}{base:Env}{es:List Nat}{L:List (List AO)}{ids:List (List Nat)}{tb:List (List Bool×List AO)}
theorem t8(ht:t.ok P=true)(hc:aE P call)(hn:e.n=nt){k:Nat}{c:List Bool}{o:Oper}{pk bk:List Nat}(hp:rF (fU P t call l ids) l base rs es L k o)(hpk:pk=(bP l k (aJ l o)).1)(hbk:bk=(bP l k (aJ l o)).2)(h0:pa nt o=true)
  (h:vX (fU P t call l ids) l rs base es L tb k o pk bk c=true):ObT P e l rs base (stS L tb c) (stS L tb (upB k es c)) k o pk bk:=λF=>by
 have hd:∀d,o.dst=some d→Nat.ble (d+1) e.n=true:=λd hd=>by unfold pa at h0;rw[hd] at h0;rw[hn];exact h0
 unfold vX at h
 rw[Bool.or_eq_true] at h
 rcases h with h|h
 ·rw[Bool.and_eq_true,beq_iff_eq,beq_iff_eq] at h
  obtain⟨h1,h2⟩:=h
  obtain⟨q,r,h3,h4⟩:=hp
  have e1:stS L tb c=L.getD (cn es k) []:=by unfold stS;rw[h1]
  have e2:stS L tb (upB k es c)=L.getD (bif es.contains k then cn es k+1 else cn es k) []:=by unfold stS;rw[h2]
  rw[hpk,hbk,e1,e2]
  exact kG ht hc hd h3 (oh h4 rfl)
 ·split at h
  ·rename_i r s' hr
   rw[Bool.and_eq_true,beq_iff_eq] at h
   rw[h.2]
   have:=qY hr
   subst this
   exact kG ht hc hd hr (ii h.1 rfl)
  ·rename_i r s' hr
   rw[Bool.and_eq_true] at h
   exact kG ht hc hd hr (ii h.1 (cX h.2))
  ·cases h
theorem nK(ht:t.ok P=true)(hc:aE P call)(hn:e.n=nt){tc:List (List Nat)}(hp:∀(j:Nat)(o:Oper),l[j]? =some o→rF (fU P t call l ids) l base rs es L j o):∀{ol:List Oper}{ps:List (List Nat×List Nat×List (List Bool))}{k:Nat},ol=l.drop k→ps=(fJ l tc es 0 l).drop k→sf (fU P t call l ids) nt l rs base es L tb k ol ps=true→
  pw P e l rs base (stS L tb) es k ol ps
 |[],_,_,_,_,_=>trivial
 |_::_,[],_,_,_,_=>trivial
 |o::ol,p::ps,k,h1,h2,h=>by
  unfold sf at h
  rw[Bool.and_eq_true,Bool.and_eq_true] at h
  have ho:l[k]? =some o:=by
   have:(l.drop k)[0]? =some o:=by rw[←h1];rfl
   simpa using this
  have hpl:(fJ l tc es 0 l)[k]? =some p:=by
   have:((fJ l tc es 0 l).drop k)[0]? =some p:=by rw[←h2];rfl
   simpa using this
  have hpe:p=((bP l k (aJ l o)).1,(bP l k (aJ l o)).2,csS tc es k):=by
   have:=jH (l:=l) (tc:=tc) (es:=es) (k:=0) ho
   rw[Nat.zero_add,hpl] at this
   exact inS this
  have h1':ol=l.drop (k+1):=by
   have:(o::ol).drop 1=(l.drop k).drop 1:=by rw[h1]
   rw[List.drop_drop] at this
   simpa[Nat.add_comm] using this
  have h2':ps=(fJ l tc es 0 l).drop (k+1):=by
   have:(p::ps).drop 1=((fJ l tc es 0 l).drop k).drop 1:=by rw[h2]
   rw[List.drop_drop] at this
   simpa[Nat.add_comm] using this
  exact⟨lw λc hcm=>t8 ht hc hn (hp k o ho) (by rw[hpe]) (by rw[hpe]) h.1 (List.all_eq_true.1 h.2.1 c hcm),nK ht hc hn hp h1' h2' h.2.2⟩
end
def uU:List Nat→Nat
 |[]=>0
 |n::l=>n+uU l
def nV(es:List Nat):Nat→Nat→List Nat→List (List AO)→List Nat
 |0,_,_,_=> []
 |m+1,k,y::ys,a::b::L=>bif Nat.beq y k then(b.length - a.length)::nV es m (k+1) ys (b::L) else 0::nV es m (k+1) (y::ys) (a::b::L)
 |m+1,k,_,_=>0::nV es m (k+1) [] []
theorem nj{P:Program}{e:En}{c:Code}{K:Ko}{env:Env}:∀{n:Nat}{st:List AO},WC P e c K env (st++List.replicate n .rsv)→WC P e c K env st
 |0,st,h=>by simpa using h
 |n+1,st,h=>Gh.wc vF (nj (n:=n) (by rw[List.append_assoc];exact h))
def tV(P:Program)[PC P](t:Ty)(nt:Nat)(call:ap)(l:List Oper)(base:Env)(st:List AO)(cs:List Nat):Option (Env×List AO):=
 aL (rZ cs st.length) λids=>aL (st++List.replicate (uU cs) .rsv) λst0=>
 match iK (fU P t call l ids) l base l 0 [] [] [st0] st0 with
 |some (rs,es,L)=>ez (tcF l) λtc=>aL (fJ l tc es 0 l) λplan=>aL (tbS (fU P t call l ids) l rs base es L tc (kS es.length) []) λtb=>
   bif P.follows .mixedOrders&&(gH l tc es plan&&(Nat.beq rs.length l.length&&(es.all (λy=>Nat.blt y l.length)&&(sf (fU P t call l ids) nt l rs base es L tb 0 l plan&&av l))))
   then aL (FL base (λk=>Nat.blt k l.length) (aH l rs 0)) (λev=>some (ev,L.getD es.length [])) else none
 |none=>none
theorem n8{P:Program}[PC P]{t:Ty}{nt:Nat}{call:ap}{e:En}(ht:t.ok P=true)(hc:aE P call)(hn:e.n=nt){l:List Oper}{base env':Env}{st st':List AO}{id:Nat}{κ:Ko}{cs:List Nat}(h:tV P t nt call l base st cs=some (env',st'))(k:WE P e .normal κ env' st'):WC P e (.region id l.toArray true) κ base st:=by
 unfold tV at h
 simp only[aU,e9] at h
 split at h
 ·rename_i rs es L hs
  obtain⟨hh,h⟩:=ay h
  simp only[aa,Prod.mk.injEq] at h
  obtain⟨rfl,rfl⟩:=h
  simp only[Bool.and_eq_true] at hh
  obtain⟨c1,c2,c3,c4,c5,c6⟩:=hh
  obtain⟨_,_,⟨L',h0⟩,_,hp⟩:=iJ qY hs sM rfl (λy hy=>by cases hy) rfl rfl
  refine nj (n:=uU cs) ?_
  refine jm rs (tcF l) es (stS L (tbS (fU P t call l (rZ cs st.length)) l rs base es L (tcF l) (kS es.length) [])) (fJ l (tcF l) es 0 l) c1 c2 c3 c4 ?_ (nK (tc:=tcF l) ht hc hn (λj o ho=>hp j o (Nat.zero_le _) ho) sM sM c5) ?_ c6
  ·unfold stS
   rw[pj]
   show L.getD 0 []=_
   rw[h0]
   rfl
  ·have:stS L (tbS (fU P t call l (rZ cs st.length)) l rs base es L (tcF l) (kS es.length) []) (List.replicate es.length true)=L.getD es.length []:=by
    unfold stS
    rw[mf]
   rw[this]
   exact k
 ·cases h
def vO(P:Program)[PC P](t:Ty)(nt:Nat)(call:ap)(l:List Oper)(base:Env)(st:List AO):Option (Env×List AO):=
 match tV P t nt call l base st (l.map λo=>bif vj o then 1 else 0) with
 |some r=>some r
 |none=>(match iK (fU P t call l []) l base l 0 [] [] [st] st with
  |some (_,es,L)=>tV P t nt call l base st (nV es l.length 0 es L)
  |none=>none)
theorem tU{P:Program}[PC P]{t:Ty}{nt:Nat}{call:ap}{e:En}(ht:t.ok P=true)(hc:aE P call)(hn:e.n=nt){l:List Oper}{base env':Env}{st st':List AO}{id:Nat}{κ:Ko}(h:vO P t nt call l base st=some (env',st'))(k:WE P e .normal κ env' st'):WC P e (.region id l.toArray true) κ base st:=by
 unfold vO at h
 split at h
 ·rename_i hr
  obtain rfl:=inS h
  exact n8 ht hc hn hr k
 ·split at h
  ·exact n8 ht hc hn h k
  ·cases h
def tcD(l:List Oper):List (List Nat):=l.map λo=>o.after.toList.filterMap λe=>bif Region.binds .any e then some e.on else none
def jv(x:Nat):List Nat→Bool
 |[]=>false
 |y::l=>bif Nat.beq x y then true else jv x l
theorem kL{x:Nat}:∀{l:List Nat},jv x l=true→x∈l
 |y::l,h=>by
  unfold jv at h
  cases hb:Nat.beq x y with
  |true=>rw[nbE hb];exact List.mem_cons_self
  |false=>rw[hb,cdF] at h;exact List.mem_cons_of_mem _ (kL h)
theorem jc{x:Nat}:∀{l:List Nat},jv x l=false→x∉l
 |[],_,hm=>by cases hm
 |y::l,h,hm=>by
  unfold jv at h
  cases hb:Nat.beq x y with
  |true=>rw[hb] at h;cases h
  |false=>
   rw[hb,cdF] at h
   rcases List.mem_cons.1 hm with rfl|hm
   ·rw[Nat.beq_refl] at hb;cases hb
   ·exact jc h hm
def ndX:List Nat→Bool
 |[]=>true
 |x::l=> !(jv x l)&&ndX l
theorem qq:∀{l:List Nat},ndX l=true→cC l=true
 |[],_=>rfl
 |x::l,h=>by
  simp only[ndX,Bool.and_eq_true,Bool.not_eq_true'] at h
  simp only[cC,Bool.and_eq_true,Bool.not_eq_true',List.contains_eq_mem,decide_eq_false_iff_not]
  exact⟨jc h.1,qq h.2⟩
def slowB(l:List Oper)(tc:List (List Nat))(k x:Nat):Bool:=(List.range l.length).all λj=>match l[j]? with|some o=> !(o.dst==some x)||Nat.beq j k||(tc.getD j []).contains k|none=>true
def ctxB(es:List Nat)(tc:List (List Nat))(k:Nat)(cs:List Nat):Bool:=(List.range (es.length+1)).all λc=>cs.contains c||(match es[c]? with|some y=>(tc.getD k []).contains y|none=>false)||
    (es.take c).any λy=>Nat.beq y k||(tc.getD y []).contains k
def atX(l:List Oper)(tc:List (List Nat))(es ds:List Nat)(k:Nat)(p:List Nat×List Nat×List Nat):Bool:=
 (p.1.all λj=>jv j (tc.getD k []))&&(!(es.contains k)||p.2.2.all λc=>es[c]? ==some k)&&
   (p.2.1.all λx=>(bif jv x ds then slowB l tc k x else true))&&(match es with
    |[]=>jv 0 p.2.2
    |_=>ctxB es tc k p.2.2)
def goX(l:List Oper)(tc:List (List Nat))(es ds:List Nat):Nat→List (List Nat×List Nat×List Nat)→Bool
 |_,[]=>true
 |k,p::ps=>bif atX l tc es ds k p then goX l tc es ds (k+1) ps else false
theorem nW{l:List Oper}{tc:List (List Nat)}{es ds:List Nat}:∀{ps:List (List Nat×List Nat×List Nat)}{k j:Nat}{p:List Nat×List Nat×List Nat},goX l tc es ds k ps=true→ps[j]? =some p→atX l tc es ds (k+j) p=true
 |[],_,_,_,_,h=>by simp at h
 |q::ps,k,j,p,h,hp=>by
  unfold goX at h
  cases hb:atX l tc es ds k q with
  |false=>rw[hb] at h;cases h
  |true=>
   rw[hb,cdT] at h
   cases j with
   |zero=>
    obtain rfl:=inS hp
    exact hb
   |succ j=>
    rw[show k+(j+1)=k+1+j by omega]
    exact nW h (by simpa using hp)
def tcG(tc:List (List Nat)):List Oper→Nat→List (List Nat)→Bool
 |o::ol,k,t::ts=>(o.after.toList.all λe=> !(Region.binds .any e)||Nat.blt e.on k)&&
   (t.all λj=>o.after.toList.any λe=>Region.binds .any e&&(Nat.beq e.on j||(tc.getD e.on []).contains j))&&tcG tc ol (k+1) ts
 |[],_,[]=>true
 |_,_,_=>false
theorem ny{tc:List (List Nat)}:∀{ol:List Oper}{k:Nat}{ts:List (List Nat)},tcG tc ol k ts=true→∀(j:Nat)(o:Oper),ol[j]? =some o→∃t,ts[j]? =some t∧(o.after.toList.all λe=> !(Region.binds .any e)||Nat.blt e.on (k+j))=true∧(t.all λj=>o.after.toList.any λe=>Region.binds .any e&&(Nat.beq e.on j||(tc.getD e.on []).contains j))=true
 |[],_,_,_,_,_,h=>by simp at h
 |o::ol,k,[],h,_,_,_=>by cases h
 |o::ol,k,t::ts,h,j,o',ho=>by
  unfold tcG at h
  rw[Bool.and_eq_true,Bool.and_eq_true] at h
  cases j with
  |zero=>
   obtain rfl:=inS ho
   exact⟨t,rfl,h.1.1,h.1.2⟩
  |succ j=>
   obtain⟨t',h1,h2,h3⟩:=ny h.2 j o' (by simpa using ho)
   rw[show k+1+j=k+(j+1) by omega] at h2
   exact⟨t',by simpa using h1,h2,h3⟩
theorem uT{tc:List (List Nat)}{l:List Oper}(h:tcG tc l 0 tc=true):oS l tc=true:=by
 refine List.all_eq_true.2 λk hk=>?_
 have hk:=List.mem_range.1 hk
 obtain⟨t,h1,h2,h3⟩:=ny h k l[k] (geG hk)
 rw[Nat.zero_add] at h2
 have h4:tc.getD k []=t:=by rw[List.getD_eq_getElem?_getD,h1];rfl
 rw[geG hk]
 show(_&&_)=true
 rw[Bool.and_eq_true,h4]
 exact⟨h2,h3⟩
def m9(l:List Oper)(tc:List (List Nat))(es:List Nat)(plan:List (List Nat×List Nat×List Nat)):Bool:=
 aL (l.filterMap (·.dst)) λds=>tcG tc l 0 tc&&(ndX ds&&(cC es&&(Nat.beq plan.length l.length&&
 (((List.range es.length).all λi=>match es[i]?,es[i+1]? with|some x,some y=>(tc.getD y []).contains x|_,_=>true)&&goX l tc es ds 0 plan))))
theorem pp{l:List Oper}{tc:List (List Nat)}{es:List Nat}{plan:List (List Nat×List Nat×List Nat)}(h:m9 l tc es plan=true):f' l tc es plan=true:=by
 unfold m9 at h
 rw[aU] at h
 simp only[Bool.and_eq_true] at h
 obtain⟨h1,h2,h3,h4,h5,h6⟩:=h
 unfold f'
 simp only[Bool.and_eq_true]
 refine⟨⟨⟨⟨⟨uT h1,qq h2⟩,h3⟩,h4⟩,h5⟩,?_⟩
 refine List.all_eq_true.2 λk hk=>?_
 have hk:=List.mem_range.1 hk
 have hp:k<plan.length:=by rw[nbE h4];exact hk
 have hg:=nW h6 (geG hp)
 rw[Nat.zero_add] at hg
 rw[geG hp]
 generalize plan[k]=p at hg
 obtain⟨pk,bk,cs⟩:=p
 unfold atX at hg
 simp only[Bool.and_eq_true] at hg⊢
 obtain⟨⟨⟨g1,g2⟩,g3⟩,g4⟩:=hg
 refine⟨⟨⟨List.all_eq_true.2 λj hj=>?_,g2⟩,List.all_eq_true.2 λx hx=>?_⟩,?_⟩
 ·rw[List.contains_eq_mem,decide_eq_true_eq]
  exact kL (List.all_eq_true.1 g1 j hj)
 ·have:=List.all_eq_true.1 g3 x hx
  cases hc:jv x (l.filterMap (·.dst)) with
  |true=>rw[hc,cdT] at this;exact this
  |false=>
   refine List.all_eq_true.2 λj hj=>?_
   have hj:=List.mem_range.1 hj
   rw[geG hj]
   have:(l[j].dst==some x)=false:=by
    rw[beq_eq_false_iff_ne]
    intro hd
    exact jc hc (List.mem_filterMap.2 ⟨_,List.getElem_mem hj,hd⟩)
   simp[this]
 ·cases es with
  |nil=>
   have:(0:Nat)∈cs:=kL g4
   simp[this]
  |cons y es=>exact g4
def qS(P:Program)[PC P](t:Ty)(nt:Nat)(call:ap)(l:List Oper)(base:Env)(rs:List AV)(es:List Nat)(L:List (List AO))(tc:List (List Nat)):Bool:=
 aL (fH l tc es 0 l) λplan=>m9 l tc es plan&&se P t nt call l rs base es L 0 l plan
def tT(P:Program)[PC P](t:Ty)(q:Bool)(nt:Nat)(call:ap)(l:List Oper)(base:Env)(st:List AO):Option (Env×List AO):=
 match gV P t q call l base l 0 [] [] [st] st with
 |some (rs,es,L)=>bif P.follows .mixedOrders&&(Nat.beq rs.length l.length&&(es.all (λy=>Nat.blt y l.length)&&(av l&&(bif ez (tcD l) (λtc=>qS P t nt call l base rs es L tc) then true else ez (tcF l) λtc=>qS P t nt call l base rs es L tc))))
   then aL (FL base (λk=>Nat.blt k l.length) (aH l rs 0)) (λev=>some (ev,L.getD es.length [])) else none
 |none=>none
theorem n7{P:Program}[PC P]{t:Ty}{q:Bool}{nt:Nat}{call:ap}{e:En}(ht:t.ok P=true)(hc:aE P call)(hn:e.n=nt){l:List Oper}{base env':Env}{st st':List AO}{id:Nat}{κ:Ko}(h:tT P t q nt call l base st=some (env',st'))(k:WE P e .normal κ env' st'):WC P e (.region id l.toArray true) κ base st:=by
 unfold tT at h
 split at h
 ·rename_i rs es L hs
  obtain⟨hh,h⟩:=ay h
  rw[aU] at h
  simp only[aa,Prod.mk.injEq] at h
  obtain⟨rfl,rfl⟩:=h
  simp only[Bool.and_eq_true,e9] at hh
  obtain⟨c1,c3,c4,c6,c7⟩:=hh
  obtain⟨_,_,⟨L',h0⟩,_,hp⟩:=iI hs sM rfl (λy hy=>by cases hy) rfl rfl
  have fin:∀tc,qS P t nt call l base rs es L tc=true→WC P e (.region id l.toArray true) κ base st:=λtc hf=>by
   unfold qS at hf
   rw[aU,Bool.and_eq_true] at hf
   exact eH rs tc es (λc=>L.getD c []) (fH l tc es 0 l) c1 (pp hf.1) c3 c4 (by show L.getD 0 []=st;rw[h0];rfl) (nJ (tc:=tc) ht hc hn (λj o ho=>hp j o (Nat.zero_le _) ho) sM sM hf.2) k c6
  cases hD:qS P t nt call l base rs es L (tcD l) with
  |true=>exact fin _ hD
  |false=>rw[hD,cdF] at c7;exact fin _ c7
 ·cases h
def pY(l:List Oper)(tc:List (List Nat)):Bool:=(List.range l.length).any λk=>match l[k]? with
 |some o=>vj o&&(List.range l.length).any λj=> !(Nat.beq j k)&&((match l[j]? with
  |some p=>vj p||gx p.op
  |none=>false)&&(!((tc.getD k []).contains j)&& !((tc.getD j []).contains k)))
 |none=>false
def exA(P:Program)[PC P](t:Ty)(nt:Nat)(call:ap)(l:List Oper)(base:Env)(st:List AO):Option (Env×List AO):=match(bif pY l (tcF l) then vO P t nt call l base st else none) with
 |some r=>some r
 |none=>(match tT P t false nt call l base st with
  |some r=>some r
  |none=>tT P t true nt call l base st)
theorem vN{P:Program}[PC P]{t:Ty}{nt:Nat}{call:ap}{e:En}(ht:t.ok P=true)(hc:aE P call)(hn:e.n=nt){l:List Oper}{base env':Env}{st st':List AO}{id:Nat}{κ:Ko}(h:exA P t nt call l base st=some (env',st'))(k:WE P e .normal κ env' st'):WC P e (.region id l.toArray true) κ base st:=by
 unfold exA at h
 split at h
 ·rename_i hr
  obtain rfl:=inS h
  cases hb:pY l (tcF l) with
  |true=>
   rw[hb,cdT] at hr
   exact tU ht hc hn hr k
  |false=>rw[hb] at hr;cases hr
 ·split at h
  ·rename_i hr
   obtain rfl:=inS h
   exact n7 ht hc hn hr k
  ·exact n7 ht hc hn h k
def kQ(env:Env):List Nat→Option (List AV)
 |[]=>some []
 |t::l=>match env.get t,kQ env l with
  |some x,some xs=>some (x::xs)
  |_,_=>none
theorem jW{env:Env}:∀{l:List Nat}{xs:List AV},kQ env l=some xs→aX env (l.map .tmp)=some xs
 |[],xs,h=>by obtain rfl:=inS h;rfl
 |t::l,xs,h=>by
  unfold kQ at h
  split at h
  ·rename_i h1 h2
   obtain rfl:=inS h
   show(match env.get t,aX env (l.map .tmp) with|some y,some ys=>some (y::ys)|_,_=>none)=_
   rw[h1,jW h2]
  ·cases h
def exC(P:Program)[PC P](t:Ty)(nt:Nat)(call:ap)(yld:ia)(top:Bool)(hook:bM):Nat→Code→Env→List AO→Option (Exit×Env×List AO)
 |0,_,_,_=>none
 |n+1,c,env,st=>match c with
  | .skip=>some (.normal,env,st)
  | .ret=>some (.ret,env,st)
  | .exit i=>some (.exit i,env,st)
  | .seq x y=>(match exC P t nt call yld top hook n x env st with
   |some (.normal,env',st')=>exC P t nt call yld top hook n y env' st'
   |some (.ret,env',st')=>some (.ret,env',st')
   |some (.exit i,env',st')=>some (.exit i,env',st')
   |_=>none)
  | .block i x=>(match exC P t nt call yld top hook n x env st with
   |some (.normal,env',st')=>some (.normal,env',st')
   |some (.ret,env',st')=>some (.ret,env',st')
   |some (.exit j,env',st')=>bif Nat.beq j i then some (.normal,env',st') else some (.exit j,env',st')
   |_=>none)
  | .cond b x y=>(match(opv env b).bind ou with
   |some true=>exC P t nt call yld top hook n x env st
   |some false=>exC P t nt call yld top hook n y env st
   |none=>none)
  | .region _ a false=>bif av a.toList then(match exL P t nt call yld hook a a.toList env st with
   |some (env',st')=>some (.normal,env',st')
   |none=>none) else none
  | .region _ a true=>(match exA P t nt call a.toList env st with
   |some (env',st')=>some (.normal,env',st')
   |none=>none)
  | .loop x=>(match exC P t nt call yld top hook n x env st with
   |some (.normal,env',st')=>exC P t nt call yld top hook n (.loop x) env' st'
   |some (.ret,env',st')=>some (.ret,env',st')
   |some (.exit i,env',st')=>some (.exit i,env',st')
   |_=>none)
  | .rangeFunc g ps asg body=>bif top then(match opv env g,kQ env (env.map (·.1)) with
   |some (.fn (.func f) first caps),some vs=>(match call f (first++ .yl st.length::caps) (st++ [.lp ⟨nt,env.map (·.1),ps.toList,asg,body⟩ vs .ready none]) with
    |some (_,st')=>(match st'[st.length]? with
     |some (.lp _ _ .ready none)=>some (.normal,env,st'.set st.length .dead)
     |some (.lp _ _ .done (some .ret))=>some (.ret,env,st'.set st.length .dead)
     |some (.lp _ _ .done (some (.exit i)))=>some (.exit i,env,st'.set st.length .dead)
     |_=>none)
    |none=>none)
   |_,_=>none) else none
  | .label _=>some (.normal,env,st)
  | .scope x=>bif top then exC P t nt call yld top hook n x env st else none
  |_=>none
section
variable{P:Program}[PC P]{t:Ty}{nt:Nat}{call:ap}{yld:ia}{top:Bool}{hook:bM}{e:En}
theorem b7(ht:t.ok P=true)(hc:aE P call)(hyl:jg P yld)(htop:top=true→e.rd=none∧e.ds=none)(hh:c9 hook)(hn:e.n=nt):∀(n:Nat),
  (∀(c:Code)(env env':Env)(st st':List AO)(x:Exit)(κ:Ko),exC P t nt call yld top hook n c env st=some (x,env',st')→WE P e x κ env' st'→WC P e c κ env st)∧
  (∀(c:Code)(env env':Env)(st st':List AO)(x:Exit)(κ:Ko),exC P t nt call yld top hook n (.loop c) env st=some (x,env',st')→WE P e x κ env' st'→∃m,n=m+1∧WC P e c (.rl m c κ) env st)
 |0=>⟨λ_ _ _ _ _ _ _ h=>(by cases h),λ_ _ _ _ _ _ _ h=>(by cases h)⟩
 |n+1=>by
  obtain⟨iA,iB⟩:=b7 ht hc hyl htop hh hn n
  have hB:∀(c:Code)(env env':Env)(st st':List AO)(x:Exit)(κ:Ko),exC P t nt call yld top hook (n+1) (.loop c) env st=some (x,env',st')→WE P e x κ env' st'→∃m,n+1=m+1∧WC P e c (.rl m c κ) env st:=by
   intro c env env' st st' x κ h k
   refine⟨n,rfl,?_⟩
   dsimp only[exC] at h
   split at h
   ·rename_i hx
    obtain⟨m,hm,hw⟩:=iB _ _ _ _ _ _ _ h k
    subst hm
    exact iA _ _ _ _ _ _ _ hx (fm hw)
   ·rename_i hx
    simp only[aa,Prod.mk.injEq] at h
    obtain⟨rfl,rfl,rfl⟩:=h
    exact iA _ _ _ _ _ _ _ hx (bE k)
   ·rename_i hx
    simp only[aa,Prod.mk.injEq] at h
    obtain⟨rfl,rfl,rfl⟩:=h
    exact iA _ _ _ _ _ _ _ hx (iu k)
   ·cases h
  refine⟨?_,hB⟩
  intro c env env' st st' x κ h k
  cases c with
  |loop c=>
   obtain⟨m,_,hw⟩:=hB _ _ _ _ _ _ _ h k
   exact jw m hw
  |skip=>
   dsimp only[exC] at h
   simp only[aa,Prod.mk.injEq] at h
   obtain⟨rfl,rfl,rfl⟩:=h
   exact ke k
  |ret=>
   dsimp only[exC] at h
   simp only[aa,Prod.mk.injEq] at h
   obtain⟨rfl,rfl,rfl⟩:=h
   exact mH k
  |exit i=>
   dsimp only[exC] at h
   simp only[aa,Prod.mk.injEq] at h
   obtain⟨rfl,rfl,rfl⟩:=h
   exact nk k
  |seq a b=>
   dsimp only[exC] at h
   split at h
   ·rename_i hx
    exact cT (iA _ _ _ _ _ _ _ hx (dE (iA _ _ _ _ _ _ _ h k)))
   ·rename_i hx
    simp only[aa,Prod.mk.injEq] at h
    obtain⟨rfl,rfl,rfl⟩:=h
    exact cT (iA _ _ _ _ _ _ _ hx (dD k))
   ·rename_i hx
    simp only[aa,Prod.mk.injEq] at h
    obtain⟨rfl,rfl,rfl⟩:=h
    exact cT (iA _ _ _ _ _ _ _ hx (gO k))
   ·cases h
  |block i a=>
   dsimp only[exC] at h
   split at h
   ·rename_i hx
    simp only[aa,Prod.mk.injEq] at h
    obtain⟨rfl,rfl,rfl⟩:=h
    exact dT (iA _ _ _ _ _ _ _ hx (pS k))
   ·rename_i hx
    simp only[aa,Prod.mk.injEq] at h
    obtain⟨rfl,rfl,rfl⟩:=h
    exact dT (iA _ _ _ _ _ _ _ hx (iv k))
   ·rename_i j _ _ hx
    cases hb:Nat.beq j i with
    |true=>
     rw[hb] at h
     simp only[cdT,aa,Prod.mk.injEq] at h
     obtain⟨rfl,rfl,rfl⟩:=h
     have:=nbE hb
     subst this
     exact dT (iA _ _ _ _ _ _ _ hx (iw k))
    |false=>
     rw[hb] at h
     simp only[cdF,aa,Prod.mk.injEq] at h
     obtain⟨rfl,rfl,rfl⟩:=h
     exact dT (iA _ _ _ _ _ _ _ hx (gQ hb k))
   ·cases h
  |cond b x y=>
   dsimp only[exC] at h
   split at h
   ·rename_i hb
    obtain⟨z,h1,h2⟩:=aO hb
    rw[fZ h2] at h1
    exact ef h1 (λ_=>iA _ _ _ _ _ _ _ h k) (λh=>by cases h)
   ·rename_i hb
    obtain⟨z,h1,h2⟩:=aO hb
    rw[fZ h2] at h1
    exact ef h1 (λh=>by cases h) (λ_=>iA _ _ _ _ _ _ _ h k)
   ·cases h
  |region id a b=>
   cases b with
   |false=>
    dsimp only[exC] at h
    obtain⟨hd,h⟩:=ay h
    split at h
    ·rename_i hx
     simp only[aa,Prod.mk.injEq] at h
     obtain⟨rfl,rfl,rfl⟩:=h
     exact dn (l:=a.toList) (gC ht hc hyl hh hn hx k) hd
    ·cases h
   |true=>
    dsimp only[exC] at h
    split at h
    ·rename_i hx
     simp only[aa,Prod.mk.injEq] at h
     obtain⟨rfl,rfl,rfl⟩:=h
     exact vN (l:=a.toList) ht hc hn hx k
    ·cases h
  |rangeFunc g ps asg body=>
   dsimp only[exC] at h
   obtain⟨htp,h⟩:=ay h
   obtain⟨hrd,hds⟩:=htop htp
   split at h
   ·rename_i f first caps vs hg hvs
    split at h
    ·rename_i r1 st1 hx
     have hctr:=hc _ _ _ _ _ hx
     rw[←hn] at hctr
     refine jx (env.map (·.1)) _ hrd hg (jW hvs) hctr (λr' s' hq=>?_) hds
     obtain⟨rfl,rfl⟩:=hq
     split at h
     ·rename_i hl
      simp only[aa,Prod.mk.injEq] at h
      obtain⟨rfl,rfl,rfl⟩:=h
      exact⟨_,_,_,_,_,SLe.refl _,hl,sM,k⟩
     ·rename_i hl
      simp only[aa,Prod.mk.injEq] at h
      obtain⟨rfl,rfl,rfl⟩:=h
      exact⟨_,_,_,_,_,SLe.refl _,hl,sM,k⟩
     ·rename_i hl
      simp only[aa,Prod.mk.injEq] at h
      obtain⟨rfl,rfl,rfl⟩:=h
      exact⟨_,_,_,_,_,SLe.refl _,hl,sM,k⟩
     ·cases h
    ·cases h
   ·cases h
  |label l=>
   dsimp only[exC] at h
   simp only[aa,Prod.mk.injEq] at h
   obtain⟨rfl,rfl,rfl⟩:=h
   exact pV k
  |scope c=>
   dsimp only[exC] at h
   obtain⟨htp,h⟩:=ay h
   exact pT (htop htp).1 (iA _ _ _ _ _ _ _ h k)
  |_=>cases h
end
def du:ia:=λ_ _ _=>none
theorem bi{P:Program}:jg P du:=λ_ _ _ _ _ h=>by cases h
def pz(P:Program)[PC P](t:Ty)(call:ap)(yl:ia)(hook:bM)(fuel:Nat):ia:=λid asz st=>match st[id]? with
 |some (.lp s vs .ready _)=>bif Nat.beq asz.length s.ps.length&&(cC s.ps&&((s.ps.all λp=>Nat.blt p s.n)&&Nat.beq s.ts.length vs.length)) then
   (match exC P t s.n call yl false hook fuel s.asg (List.zip s.ps asz++List.zip s.ts vs) st with
   |some (.normal,env1,st1)=>(match st1[id]? with
    |some (.lp s1 vs1 .ready pd1)=>(match exC P t s.n call yl false hook fuel s.body env1 (st1.set id (.lp s1 vs1 .busy pd1)) with
     |some (.normal,_,st2)=>(match st2[id]? with
      |some (.lp s2 vs2 .busy _)=>some (.d (.v (.bool true)),st2.set id (.lp s2 vs2 .ready none))
      |_=>none)
     |some (.ret,_,st2)=>(match st2[id]? with
      |some (.lp s2 vs2 .busy _)=>some (.d (.v (.bool false)),st2.set id (.lp s2 vs2 .done (some .ret)))
      |_=>none)
     |some (.exit i,_,st2)=>(match st2[id]? with
      |some (.lp s2 vs2 .busy _)=>some (.d (.v (.bool false)),st2.set id (.lp s2 vs2 .done (some (.exit i))))
      |_=>none)
     |_=>none)
    |_=>none)
   |_=>none) else none
 |_=>none
theorem j6{P:Program}[PC P]{t:Ty}{call:ap}{yl:ia}{hook:bM}{fuel:Nat}(ht:t.ok P=true)(hc:aE P call)(hyl:jg P yl)(hh:c9 hook):jg P (pz P t call yl hook fuel):=by
 intro id asz st r st' h e ops rest o env R c x d hop hx hf has hw ho hd k
 unfold pz at h
 split at h
 ·rename_i s vs pd hs
  obtain⟨hq,h⟩:=ay h
  simp only[Bool.and_eq_true] at hq
  obtain⟨q1,q2,q3,q4⟩:=hq
  refine jY (λr' s'=>r'=r∧s'=st') hop hx hf has hs q1 q2 q3 q4 (λe' hn' hrd' _=>?_) hw ho hd (λr' s' hq=>by obtain⟨rfl,rfl⟩:=hq;exact k)
  have hT:∀{b:Bool},(b=false)→b=true→e'.rd=none∧e'.ds=none:=λh1 h2=>by rw[h1] at h2;cases h2
  split at h
  ·rename_i env1 st1 hx1
   split at h
   ·rename_i s1 vs1 pd1 hs1
    refine(b7 ht hc hyl (hT rfl) hh hn' fuel).1 _ _ _ _ _ _ _ hx1 (eU hrd' hs1 ?_)
    split at h
    ·rename_i env2 st2 hx2
     split at h
     ·rename_i hs2
      simp only[aa,Prod.mk.injEq] at h
      obtain⟨rfl,rfl⟩:=h
      exact(b7 ht hc hyl (hT rfl) hh hn' fuel).1 _ _ _ _ _ _ _ hx2 (dF hrd' hs2 ⟨rfl,rfl⟩)
     ·cases h
    ·rename_i env2 st2 hx2
     split at h
     ·rename_i hs2
      simp only[aa,Prod.mk.injEq] at h
      obtain⟨rfl,rfl⟩:=h
      exact(b7 ht hc hyl (hT rfl) hh hn' fuel).1 _ _ _ _ _ _ _ hx2 (br hrd' hs2 ⟨rfl,rfl⟩)
     ·cases h
    ·rename_i env2 st2 hx2
     split at h
     ·rename_i hs2
      simp only[aa,Prod.mk.injEq] at h
      obtain⟨rfl,rfl⟩:=h
      exact(b7 ht hc hyl (hT rfl) hh hn' fuel).1 _ _ _ _ _ _ _ hx2 (kd hrd' hs2 ⟨rfl,rfl⟩)
     ·cases h
    ·cases h
   ·cases h
  ·cases h
 ·cases h
def yldX(P:Program)[PC P](t:Ty)(call:ap)(hook:bM)(fuel:Nat):ia:=pz P t call (pz P t call (pz P t call du hook fuel) hook fuel) hook fuel
theorem ng{P:Program}[PC P]{t:Ty}{call:ap}{hook:bM}{fuel:Nat}(ht:t.ok P=true)(hc:aE P call)(hh:c9 hook):jg P (yldX P t call hook fuel):=
 j6 ht hc (j6 ht hc (j6 ht hc bi hh) hh) hh
def rvX(P:Program)(env:Env)(st:List AO):ResultVar→Option AV
 | .tmp t=>env.get t
 | .cell p T=>match env.get p with
  |some (.pt id off)=>(match st[id]? with
   |some (.row _ cs)=>(match aq P T,aM P T with
    |some false,_=>cs[off]?
    |some true,some n=>bif Nat.ble (off+n) cs.length then some (.ag ((cs.drop off).take n)) else none
    |_,_=>none)
   |_=>none)
  |_=>none
def oX(P:Program)(env:Env)(st:List AO):List ResultVar→Option AV
 |[]=>some (.tu [])
 |[v]=>rvX P env st v
 |[v,u]=>match rvX P env st v,rvX P env st u with
  |some r,some s=>some (.tu [r,s])
  |_,_=>none
 |[v,u,z]=>match rvX P env st v,rvX P env st u,rvX P env st z with
  |some r,some s,some q=>some (.tu [r,s,q])
  |_,_,_=>none
 |_=>none
section
variable{P:Program}{env:Env}{st:List AO}
theorem gk{v:ResultVar}{r:AV}(h:rvX P env st v=some r):RV1 P env st v r:=by
 cases v with
 |tmp t=>exact bh h
 |cell p T=>
  dsimp only[rvX] at h
  split at h
  ·rename_i hp
   split at h
   ·rename_i hs
    split at h
    ·rename_i ha;exact jo hp hs ha h
    ·rename_i ha hn
     obtain⟨hb,h⟩:=ay h
     obtain rfl:=inS h
     exact dq hp hs ha hn hb
    ·cases h
   ·cases h
  ·cases h
theorem fC{fn:Func}{r:AV}(h:oX P env st fn.results.toList=some r):Res P fn env st r:=by
 have hl:∀L,fn.results.toList=L→fn.results=L.toArray:=λL hL=>by rw[←hL]
 unfold oX at h
 split at h
 ·rename_i hL
  obtain rfl:=inS h
  exact eX (hl _ hL)
 ·rename_i hL
  exact rs1 (hl _ hL) (gk h)
 ·rename_i hL
  split at h
  ·rename_i h1 h2
   obtain rfl:=inS h
   exact rs2 (hl _ hL) (gk h1) (gk h2)
  ·cases h
 ·rename_i hL
  split at h
  ·rename_i h1 h2 h3
   obtain rfl:=inS h
   exact rs3 (hl _ hL) (gk h1) (gk h2) (gk h3)
  ·cases h
 ·cases h
end
def vK(P:Program)[PC P](t:Ty)(call:ap)(hook:bM)(fuel:Nat)(fn:Func)(asz:List AV)(st:List AO):Option (AV×List AO):=
 match fn.body with
 |some c=>bif !(fn.name== "runtime.NumGoroutine")&&Nat.ble asz.length fn.ntmps then(match exC P t fn.ntmps call (yldX P t call hook fuel) true hook fuel c (bq 0 asz) st with
  |some (.ret,env',st')=>(match oX P env' st' fn.results.toList with
   |some r=>some (r,st')
   |none=>none)
  |some (.normal,env',st')=>(match oX P env' st' fn.results.toList with
   |some r=>some (r,st')
   |none=>none)
  |_=>none) else none
 |none=>none
def bmax(a b:Nat):Nat:=bif Nat.ble a b then b else a
mutual
def AV.ids(n:Nat):AV→List Nat
 | .ag ps=>AV.idss n ps
 | .pt id _=>bif Nat.ble n id then[id] else[]
 | .sr id _ _ _=>bif Nat.ble n id then[id] else[]
 | .fn _ a b=>AV.idss n a++AV.idss n b
 | .mp id=>bif Nat.ble n id then[id] else[]
 | .tu l=>AV.idss n l
 | .os id _=>bif Nat.ble n id then[id] else[]
 | .pe id _ _=>bif Nat.ble n id then[id] else[]
 | .ow id _ _ _ _=>bif Nat.ble n id then[id] else[]
 | .ifc _ x=>x.ids n
 | .osf id _ _=>bif Nat.ble n id then[id] else[]
 | .pem id _ _ _=>bif Nat.ble n id then[id] else[]
 | .yl id=>bif Nat.ble n id then[id] else[]
 |_=> []
def AV.idss(n:Nat):List AV→List Nat
 |[]=> []
 |x::xs=>x.ids n++AV.idss n xs
end
def idq(n:Nat)(x:AV)(acc:List Nat):List Nat:=match x with
 | .d _=>acc
 | .os id _=>bif Nat.ble n id then id::acc else acc
 | .pt id _=>bif Nat.ble n id then id::acc else acc
 | .pe id _ _=>bif Nat.ble n id then id::acc else acc
 | .mp id=>bif Nat.ble n id then id::acc else acc
 |x=>x.ids n++acc
def tI(n:Nat):List AV→List Nat→List Nat
 |[],acc=>acc
 |x::l,acc=>tI n l (idq n x acc)
def ux(n:Nat):List (List AV)→List Nat→List Nat
 |[],acc=>acc
 |e::l,acc=>ux n l (tI n e acc)
def AO.ids(n:Nat):AO→List Nat
 | .row _ cs=>tI n cs []
 | .os _ _ _ es=>ux n es []
 | .mp es=>AV.idss n (es.map (·.2))
 | .mb _ xs _=>tI n xs []
 | .it src _ _ _=>src.ids n
 | .fam _ _ _ ess=>AV.idss n ess.flatten.flatten
 | .lp _ vs _ _=>AV.idss n vs
 |_=> []
def vB(n:Nat):List AO→List Nat
 |[]=> []
 |o::l=>o.ids n++vB n l
def ltq(n:Nat)(x:AV):Bool:=match x with
 | .d _=>true
 | .os id _=>Nat.ble (id+1) n
 | .pt id _=>Nat.ble (id+1) n
 | .pe id _ _=>Nat.ble (id+1) n
 | .mp id=>Nat.ble (id+1) n
 |x=>x.lt n
theorem qx{n:Nat}{x:AV}(h:ltq n x=true):x.lt n=true:=by
 unfold ltq at h
 split at h<;>first|exact h|(simp only[AV.lt];done)|(simp only[AV.lt];exact h)
def mR(n:Nat):List AV→Bool
 |[]=>true
 |x::l=>bif ltq n x then mR n l else false
theorem ic{n:Nat}:∀{l:List AV},mR n l=true→AV.lts n l=true
 |[],_=>rfl
 |x::l,h=>by
  unfold mR at h
  cases hb:ltq n x with
  |true=>rw[hb,cdT] at h;simp only[AV.lts,Bool.and_eq_true];exact⟨qx hb,ic h⟩
  |false=>rw[hb] at h;cases h
def nO(n:Nat):List (List AV)→Bool
 |[]=>true
 |e::l=>bif mR n e then nO n l else false
theorem lG{n:Nat}:∀{l:List (List AV)},nO n l=true→AV.lts n l.flatten=true
 |[],_=>rfl
 |e::l,h=>by
  unfold nO at h
  cases hb:mR n e with
  |true=>rw[hb,cdT] at h;rw[List.flatten_cons,vu,ic hb,lG h];rfl
  |false=>rw[hb] at h;cases h
def sh(n:Nat)(o:AO):Bool:=match o with
 | .row _ cs=>mR n cs
 | .os _ _ _ es=>nO n es
 | .mb _ xs _=>mR n xs
 |o=>o.lt n
theorem sg{n:Nat}{o:AO}(h:sh n o=true):o.lt n=true:=by
 unfold sh at h
 split at h
 ·exact ic h
 ·exact lG h
 ·exact ic h
 ·exact h
def jB(n:Nat):List AO→Bool
 |[]=>true
 |o::l=>bif sh n o then jB n l else false
theorem iz{n:Nat}:∀{l:List AO},jB n l=true→da n l=true
 |[],_=>rfl
 |o::l,h=>by
  unfold jB at h
  cases hb:sh n o with
  |true=>rw[hb,cdT] at h;simp only[da,Bool.and_eq_true];exact⟨sg hb,iz h⟩
  |false=>rw[hb] at h;cases h
def gj(n:Nat)(r:AV)(st:List AO):Bool:=r.lt n&&jB n st
def km(n:Nat)(st:List AO):Nat→List Nat→List Nat→List Nat
 |0,_,seen=>seen
 |_+1,[],seen=>seen
 |k+1,x::todo,seen=>bif seen.contains x then km n st k todo seen else km n st k ((match st[x]? with
  |some o=>o.ids n
  |none=> [])++todo) (x::seen)
def py(ks:List Nat):Nat→Nat→List AO→List AO
 |_,_,[]=> []
 |n,i,o::l=>(bif Nat.blt i n||ks.contains i then o else .dead)::py ks n (i+1) l
theorem nf{ks:List Nat}{n:Nat}:∀{l:List AO}{i:Nat},SLe l (py ks n i l)
 |[],_=>trivial
 |o::l,i=>by
  refine⟨?_,nf⟩
  cases (Nat.blt i n||ks.contains i) with
  |true=>exact OLe.refl o
  |false=>exact trivial
def lE:Nat→List Nat→Nat
 |m,[]=>m
 |m,x::l=>lE (bmax m (x+1)) l
def uq(n0:Nat)(ks:List Nat)(r:AV)(st:List AO):List AO:=bif Nat.ble n0 (lE n0 ks)&&gj (lE n0 ks) r (py ks n0 0 (st.take (lE n0 ks))) then py ks n0 0 (st.take (lE n0 ks)) else st
def jA(n0:Nat)(r:AV)(st:List AO):List AO:=
 bif Nat.ble st.length n0 then st else bif gj n0 r (st.take n0) then st.take n0 else uq n0 (km n0 st 1000 (r.ids n0++vB n0 (st.take n0)) []) r st
theorem nv{m m':List Cz}{φ φ':Nat→Nat}{w w':World}{st st':List AO}{r:AV}{v:Value}{n:Nat}(hl:m.length=st.length)(hev:Ev m φ w m' φ' w')(hsr:SR m' φ' st' w')(hra:RA m' φ' w' r v)(hn:st.length≤n){st1:List AO}(hz:SLe (st'.take n) st1)(ht:gj n r st1=true):
  ∃m'',Ev m φ w m'' φ' w'∧SR m'' φ' st1 w'∧RA m'' φ' w' r v:=by
 unfold gj at ht
 rw[Bool.and_eq_true] at ht
 have hlen:=hz.length
 have hst1:=iz ht.2
 refine⟨m'.take n,⟨λi c hi=>?_,λb ⟨i,c,h1,h2⟩=>hev.new b ⟨i,c,(aN h1).2,h2⟩,hev.os,hev.tape,hev.output,hev.size,hev.keep,hev.fz⟩,⟨by rw[hlen];simp[hsr.len],λi o c h1 h2=>?_,hsr.lt,λi j o o' c c' b h1 h2 l1 l2 h3 h4=>?_,hsr.gl,λb ⟨i,c,h1,h2⟩=>hsr.nb b ⟨i,c,(aN h1).2,h2⟩⟩,RA.take _ _ ht.1 hra⟩
 ·obtain⟨c',h1,h2⟩:=hev.pre i c hi
  have:i<m.length:=(giS.1 hi).1
  rw[hl] at this
  exact⟨c',bu (Nat.ble_eq_true_of_le (show i+1≤n by omega)) h1,h2⟩
 ·obtain⟨o0,g1,g2⟩:=hz.get h1
  exact((hsr.obj i o0 c (aN g1).2 (aN h2).2).weak g2).take (cv hst1 h1)
 ·obtain⟨o0,g1,g2⟩:=hz.get h1
  obtain⟨o1,g3,g4⟩:=hz.get h2
  exact hsr.inj i j o0 o1 c c' b (aN g1).2 (aN g3).2 (g2.live l1) (g4.live l2) (aN h3).2 (aN h4).2
theorem pZ{m m':List Cz}{φ φ':Nat→Nat}{w w':World}{st st':List AO}{r:AV}{v:Value}(hl:m.length=st.length)(hev:Ev m φ w m' φ' w')(hsr:SR m' φ' st' w')(hra:RA m' φ' w' r v):
  ∃m'',Ev m φ w m'' φ' w'∧SR m'' φ' (jA st.length r st') w'∧RA m'' φ' w' r v:=by
 unfold jA
 cases Nat.ble st'.length st.length with
 |true=>exact⟨m',hev,hsr,hra⟩
 |false=>
  rw[cdF]
  cases hq:gj st.length r (st'.take st.length) with
  |true=>exact nv hl hev hsr hra (Nat.le_refl _) (SLe.refl _) hq
  |false=>
  rw[cdF]
  generalize km st.length st' 1000 (r.ids st.length++vB st.length (st'.take st.length)) []=ks
  unfold uq
  cases h2:(Nat.ble st.length (lE st.length ks)&&gj (lE st.length ks) r (py ks st.length 0 (st'.take (lE st.length ks)))) with
  |true=>
   rw[Bool.and_eq_true] at h2
   exact nv hl hev hsr hra (nbT h2.1) nf h2.2
  |false=>exact⟨m',hev,hsr,hra⟩
theorem ph{P:Program}{f:FuncId}{asz:List AV}{st:List AO}{Q:AV→List AO→Prop}(h:Ctr P f asz st Q):Ctr P f asz st (λr s=>∃s0,Q r s0∧s=jA st.length r s0):=by
 refine⟨h.1,λm φ w vs hs ha=>(h.2 m φ w vs hs ha).mono ?_⟩
 rintro en w' ⟨v,r',s',m',φ',he,hq,hev,hsr,hra⟩
 obtain⟨m'',k1,k2,k3⟩:=pZ (r:=r') hs.len hev hsr hra
 exact⟨v,r',_,m'',φ',he,⟨s',hq,rfl⟩,k1,k2,k3⟩
theorem jS{P:Program}{f:FuncId}{asz:List AV}{st st':List AO}{r:AV}(h:Ctr P f asz st λr' s'=>r'=r∧s'=st'):Ctr P f asz st (λr' s'=>r'=r∧s'=jA st.length r st'):=by
 have:=ph h
 refine⟨this.1,λm φ w vs hs ha=>(this.2 m φ w vs hs ha).mono ?_⟩
 rintro en w' ⟨v,r',s',m',φ',he,⟨s0,⟨rfl,rfl⟩,rfl⟩,k⟩
 exact⟨v,r',_,m',φ',he,⟨rfl,rfl⟩,k⟩
section
variable{P:Program}[PC P]{t:Ty}
theorem tP(ht:t.ok P=true){call:ap}(hc:aE P call){hook:bM}(hh:c9 hook){fuel:Nat}{f:FuncId}{fn:Func}(hf:P.funcs[f]? =some fn){asz:List AV}{st st':List AO}{r:AV}(h:vK P t call hook fuel fn asz st=some (r,st')):Ctr P f asz st (λr' s'=>r'=r∧s'=st'):=by
 unfold vK at h
 split at h
 ·rename_i c hb
  obtain⟨hq,h⟩:=ay h
  rw[Bool.and_eq_true,Bool.not_eq_true'] at hq
  refine eC hf hq.1 hb rfl hq.2 λm φ w _=>?_
  split at h
  ·rename_i env1 st1 hx
   split at h
   ·rename_i r1 hr
    simp only[aa,Prod.mk.injEq] at h
    obtain⟨rfl,rfl⟩:=h
    exact(b7 (e:=⟨m,φ,w,fn.ntmps,none,none⟩) ht hc (ng ht hc hh) (λ_=>⟨rfl,rfl⟩) hh rfl fuel).1 _ _ _ _ _ _ _ hx (al (fC hr) ⟨rfl,rfl⟩)
   ·cases h
  ·rename_i env1 st1 hx
   split at h
   ·rename_i r1 hr
    simp only[aa,Prod.mk.injEq] at h
    obtain⟨rfl,rfl⟩:=h
    exact(b7 (e:=⟨m,φ,w,fn.ntmps,none,none⟩) ht hc (ng ht hc hh) (λ_=>⟨rfl,rfl⟩) hh rfl fuel).1 _ _ _ _ _ _ _ hx (dG (al (fC hr) ⟨rfl,rfl⟩))
   ·cases h
  ·cases h
 ·cases h
end
theorem sa{t:Nat}{x:AV}{env:Env}:opv ((t,x)::env) (.tmp t)=some x:=by
 show(bif Nat.beq t t then some x else env.get t)=some x
 rw[Nat.beq_refl,cdT]
theorem m6{P:Program}{f:FuncId}{fn:Func}{rest:Code}{id d d2 n:Nat}{ty ty2:TypeId}{pos pos2:String}{after after2:Array Edge}{caps:List AV}{st st':List AO}{v:Value}{va:AV}{u u':FrameMode}(hf:P.funcs[f]? =some fn)(hname:(fn.name== "runtime.NumGoroutine")=false)
  (hb:fn.body=some (.seq (.region id #[⟨some d, .call ⟨.builtin .recover, #[], #[]⟩,ty,pos,after,none⟩,⟨some d2, .assign (.tmp d),ty2,pos2,after2,none⟩] false) rest))(hres:fn.results= #[])(hn:fn.ntmps=n)(hle:Nat.ble caps.length n=true)(hd:Nat.ble (d+1) n=true)(hd2:Nat.ble (d2+1) n=true)
  (hu:∀(c0:Frame)(cs:List Frame),c0.mode=u→(∃cs',recoverD (c0::cs)=some (v,cs')∧cs'={ c0 with mode:=u' }::cs)∨(recoverD (c0::cs)=none∧v= .nilIface∧u'=u))
  (hva:∀m φ w,RA m φ w va v)
  (h:∀m φ w,m.length=st.length→WC P ⟨m,φ,w,n,none,some []⟩ rest (.lp (λ_ st2=>SLe st2 st') (.rend λ_ _=>False)) ((d2,va)::(d,va)::bq 0 caps) st):DSp P f caps st u u' st':=by
 refine⟨⟨fn,hf,hname,by simp[hb]⟩,λm φ w vs hs ha=>callsDIn_of_wpSIn hf hb trivial λc0 cs hu0=>?_⟩
 have hlen:=aj ha
 have hle:=nbT hle
 have hd:=nbT hd
 have hd2:=nbT hd2
 refine wpSIn_seq (wpSIn_region ?_)
 generalize hR:bodyPostS P fn c0 cs _=R
 have key:∀cs',cs'={ c0 with mode:=u' }::cs→rest.wpSIn (EF none) 0 P R ((({ tmps:=(⟨vs⟩:Array Value)++Array.replicate (fn.ntmps - (⟨vs⟩:Array Value).size) undef,defers:=[] }:Act).put (some d) v).put (some d2) ((({ tmps:=(⟨vs⟩:Array Value)++Array.replicate (fn.ntmps - (⟨vs⟩:Array Value).size) undef,defers:=[] }:Act).put (some d) v).eval (.tmp d))) cs' w:=by
  intro cs' hcs
  refine wpSIn_of_wpIn rfl ?_
  have hinv:Inv ⟨m,φ,w,n,none,some []⟩ m φ ((d,va)::bq 0 caps) st (({ tmps:=(⟨vs⟩:Array Value)++Array.replicate (fn.ntmps - (⟨vs⟩:Array Value).size) undef,defers:=[] }:Act).put (some d) v) w:=by
   refine Inv.put (e:=⟨m,φ,w,n,none,some []⟩) ⟨hs,Ev.refl m φ w,⟨λt x hx=>?_,hs.gl⟩,?_,rfl⟩ hd (hva m φ w)
   ·rw[cS] at hx
    simp only[Nat.zero_le,if_true,Nat.sub_zero] at hx
    obtain⟨y,h1,h2⟩:=aW ha hx
    refine⟨y,?_,h2⟩
    have hlt:t<vs.length:=by
     rcases Nat.lt_or_ge t vs.length with h'|h'
     ·exact h'
     ·simp[List.getElem?_eq_none h'] at h1
    rw[Array.getElem?_append_left (by simpa using hlt)]
    simpa using h1
   ·simp[hn];omega
  refine wpIn_mono (h m φ w hs.len m φ _ w (Inv.put (e:=⟨m,φ,w,n,none,some []⟩) hinv hd2 (af hinv.env sa))) λx a' w' hx=>?_
  subst hR
  cases x with
  |normal=>
   obtain⟨env2,st2,m2,φ2,hst2,hi2⟩:=hx
   refine⟨hi2.df,u',hcs, .tuple #[],results_none hres _ _ _,⟨_,rfl⟩,rfl,m2,φ2,hi2.ev,hi2.sr.weak hst2⟩
  |_=>exact hx.elim
 have hexec:∀a:Act,(execOp a.eval (⟨some d, .call ⟨.builtin .recover, #[], #[]⟩,ty,pos,after,none⟩:Oper)).run P w= .ok .recover w:=λa=>by
  simp[execOp,resolve,invoke,builtin]
 show wpOpsSIn (EF none) 0 P _ _ [0,1] _ _ w
 have hexec2:∀a:Act,(execOp a.eval (⟨some d2, .assign (.tmp d),ty2,pos2,after2,none⟩:Oper)).run P w= .ok (.value (a.eval (.tmp d))) w:=λa=>by
  simp[execOp]
 unfold wpOpsSIn
 simp only[List.getElem?_toArray,List.getElem?_cons_zero]
 refine⟨λ_ _=>trivial,?_⟩
 rw[if_pos (by simp[Region.wanted]),hexec]
 have two:∀cs',cs'={ c0 with mode:=u' }::cs→wpOpsSIn (EF none) 0 P #[⟨some d, .call ⟨.builtin .recover, #[], #[]⟩,ty,pos,after,none⟩,⟨some d2, .assign (.tmp d),ty2,pos2,after2,none⟩] (Exit.thenS (rest.wpSIn (EF none) 0 P R) R) [1] (({ tmps:=(⟨vs⟩:Array Value)++Array.replicate (fn.ntmps - (⟨vs⟩:Array Value).size) undef,defers:=[] }:Act).put (some d) v) cs' w:=λcs' hcs=>by
  unfold wpOpsSIn
  simp only[List.getElem?_toArray,List.getElem?_cons_zero,List.getElem?_cons_succ]
  refine⟨λ_ _=>trivial,?_⟩
  rw[if_pos (by simp[Region.wanted]),hexec2]
  simp only
  unfold wpOpsSIn
  exact key cs' hcs
 rcases hu c0 cs hu0 with⟨cs',h1,h2⟩|⟨h1,h2,h3⟩
 ·simp only[h1]
  exact two cs' h2
 ·simp only[h1]
  subst h2
  refine two _ ?_
  subst h3
  rw[←hu0]
theorem nF:∀(c0:Frame)(cs:List Frame),c0.mode= .returning→(∃cs',recoverD (c0::cs)=some (Value.nilIface,cs')∧cs'={ c0 with mode:= .returning }::cs)∨(recoverD (c0::cs)=none∧Value.nilIface= .nilIface∧FrameMode.returning= .returning):=λc0 cs h=> .inr ⟨by simp[recoverD,h],rfl,rfl⟩
def vL(P:Program)[PC P](t:Ty)(call:ap)(hook:bM)(fuel:Nat)(fn:Func)(caps:List AV)(st:List AO):Option (List AO):=
 match fn.body,fn.results.toList with
 |some (.seq (.region _ a false) rest),[]=>bif !(fn.name== "runtime.NumGoroutine")&&Nat.ble caps.length fn.ntmps then(match a.toList with
  |[⟨some d, .call ⟨.builtin .recover,asz,ts⟩,_,_,_,none⟩]=>(match asz.toList,ts.toList with
   |[],[]=>bif Nat.ble (d+1) fn.ntmps then(match exC P t fn.ntmps call du false hook fuel rest ((d, .d (.v .nilIface))::bq 0 caps) st with
    |some (.normal,_,st')=>some st'
    |_=>none) else none
   |_,_=>none)
  |[⟨some d, .call ⟨.builtin .recover,asz,ts⟩,_,_,_,none⟩,⟨some d2, .assign (.tmp d3),_,_,_,none⟩]=>(match asz.toList,ts.toList with
   |[],[]=>bif Nat.ble (d+1) fn.ntmps&&(Nat.ble (d2+1) fn.ntmps&&Nat.beq d3 d) then(match exC P t fn.ntmps call du false hook fuel rest ((d2, .d (.v .nilIface))::(d, .d (.v .nilIface))::bq 0 caps) st with
    |some (.normal,_,st')=>some st'
    |_=>none) else none
   |_,_=>none)
  |_=>none) else none
 |_,_=>none
theorem pR{P:Program}{e:En}{K:Ko}{env:Env}{st:List AO}:WE P e .normal (.lp (λ_ st2=>SLe st2 st) K) env st:=λm φ a w hi=>⟨env,st,m,φ,SLe.refl _,hi⟩
theorem tQ{P:Program}[PC P]{t:Ty}{call:ap}{hook:bM}{fuel:Nat}{f:FuncId}{fn:Func}(ht:t.ok P=true)(hc:aE P call)(hh:c9 hook)(hf:P.funcs[f]? =some fn){caps:List AV}{st st':List AO}(h:vL P t call hook fuel fn caps st=some st'):DSp P f caps st .returning .returning st':=by
 have hT:∀{e:En},false=true→e.rd=none∧e.ds=none:=λh=>by cases h
 unfold vL at h
 split at h
 ·rename_i id a rest hb hr
  have hres:fn.results= #[]:=Array.toList_inj.1 hr
  have hh1:=ay h
  clear h
  obtain⟨hq,h⟩:=hh1
  rw[Bool.and_eq_true,Bool.not_eq_true'] at hq
  obtain⟨l⟩:=a
  split at h
  ·rename_i d asz ts ty pos after hl
   simp only at hl
   subst hl
   split at h
   ·rename_i h1 h2
    obtain rfl:asz= #[]:=Array.toList_inj.1 h1
    obtain rfl:ts= #[]:=Array.toList_inj.1 h2
    have hh2:=ay h
    clear h
    obtain⟨hd,h⟩:=hh2
    split at h
    ·rename_i env1 st1 hx
     obtain rfl:=inS h
     exact pb (va:= .d (.v .nilIface)) hf hq.1 hb hres rfl hq.2 hd nF (λ_ _ _=>RAv) λm φ w _=>(b7 (e:=⟨m,φ,w,fn.ntmps,none,some []⟩) ht hc bi hT hh rfl fuel).1 _ _ _ _ _ _ _ hx pR
    ·cases h
   ·cases h
  ·rename_i d asz ts ty pos after d2 d3 ty2 pos2 after2 hl
   simp only at hl
   subst hl
   split at h
   ·rename_i h1 h2
    obtain rfl:asz= #[]:=Array.toList_inj.1 h1
    obtain rfl:ts= #[]:=Array.toList_inj.1 h2
    have hh2:=ay h
    clear h
    obtain⟨hd,h⟩:=hh2
    simp only[Bool.and_eq_true] at hd
    have e3:=nbE hd.2.2
    subst e3
    split at h
    ·rename_i env1 st1 hx
     obtain rfl:=inS h
     exact m6 (va:= .d (.v .nilIface)) hf hq.1 hb hres rfl hq.2 hd.1 hd.2.1 nF (λ_ _ _=>RAv) λm φ w _=>(b7 (e:=⟨m,φ,w,fn.ntmps,none,some []⟩) ht hc bi hT hh rfl fuel).1 _ _ _ _ _ _ _ hx pR
    ·cases h
   ·cases h
  ·cases h
 ·cases h
mutual
def fzA(id ver:Nat)(y:AV):AV→AV
 | .os i v=>bif Nat.beq i id&&Nat.beq v ver then y else .os i v
 | .ag ps=> .ag (fzAs id ver y ps)
 | .tu ps=> .tu (fzAs id ver y ps)
 | .fn f a b=> .fn f (fzAs id ver y a) (fzAs id ver y b)
 | .ifc t x=> .ifc t (fzA id ver y x)
 |x=>x
def fzAs(id ver:Nat)(y:AV):List AV→List AV
 |[]=> []
 |x::l=>fzA id ver y x::fzAs id ver y l
end
section
variable{m:List Cz}{φ:Nat→Nat}{w:World}{id ver:Nat}{y:AV}{yv:Value}(hm:m[id]? =some (.tok ver yv))(hy:RA m φ w y yv)
include hm hy
mutual
theorem rC:∀(x:AV)(v:Value),RA m φ w x v→RA m φ w (fzA id ver y x) v
 | .os i u,v,h=>by
  rw[fzA]
  cases hb:Nat.beq i id&&Nat.beq u ver with
  |false=>exact h
  |true=>
   rw[Bool.and_eq_true] at hb
   have e1:=nbE hb.1
   have e2:=nbE hb.2
   subst e1 e2
   simp only[RA] at h
   obtain⟨v0,y0,h1,_,h3⟩:=h
   rw[hm] at h1
   simp only[aa,Cz.tok.injEq] at h1
   obtain⟨rfl,rfl⟩:=h1
   rw[h3 rfl]
   exact hy
 | .ag ps,v,h=>by
  rw[fzA]
  simp only[RA] at h⊢
  obtain⟨cs,h1,h2⟩:=h
  exact⟨cs,h1,RAs_fz ps cs h2⟩
 | .tu ps,v,h=>by
  rw[fzA]
  simp only[RA] at h⊢
  obtain⟨cs,h1,h2⟩:=h
  exact⟨cs,h1,RAs_fz ps cs h2⟩
 | .fn f a b,v,h=>by
  rw[fzA]
  simp only[RA] at h⊢
  obtain⟨fs,cs,h1,h2,h3⟩:=h
  exact⟨fs,cs,h1,RAs_fz a fs h2,RAs_fz b cs h3⟩
 | .ifc t x,v,h=>by
  rw[fzA]
  simp only[RA] at h⊢
  obtain⟨z,h1,h2⟩:=h
  exact⟨z,h1,rC x z h2⟩
 | .u,v,h=>h
 | .d _,v,h=>h
 | .pt _ _,v,h=>h
 | .sr _ _ _ _,v,h=>h
 | .mp _,v,h=>h
 | .pe _ _ _,v,h=>h
 | .ow _ _ _ _ _,v,h=>h
 | .fs _,v,h=>h
 | .osf _ _ _,v,h=>h
 | .pem _ _ _ _,v,h=>h
 | .yl _,v,h=>h
 | .kv _ _,v,h=>h
theorem RAs_fz:∀(xs:List AV)(vs:List Value),RAs m φ w xs vs→RAs m φ w (fzAs id ver y xs) vs
 |[],vs,h=>h
 |x::xs,vs,h=>by
  rw[fzAs]
  simp only[RAs] at h⊢
  obtain⟨c,cs,h1,h2,h3⟩:=h
  exact⟨c,cs,h1,rC x c h2,RAs_fz xs cs h3⟩
end
end
theorem d8(id ver:Nat)(y:AV):∀xs:List AV,fzAs id ver y xs=xs.map (fzA id ver y)
 |[]=>rfl
 |x::xs=>by rw[fzAs,d8 id ver y xs,List.map_cons]
def fzO(id ver:Nat)(y:AV):AO→AO
 | .row T cs=> .row T (fzAs id ver y cs)
 | .os T k v es=> .os T k v (es.map (fzAs id ver y))
 |o=>o
theorem nX(id ver:Nat)(y:AV):∀es:List (List AV),(es.map (fzAs id ver y)).flatten=fzAs id ver y es.flatten
 |[]=>rfl
 |e::es=>by
  rw[List.map_cons,List.flatten_cons,List.flatten_cons,nX id ver y es,d8,d8,d8,List.map_append]
theorem OR_fz{m:List Cz}{φ:Nat→Nat}{w:World}{id ver:Nat}{y:AV}{yv:Value}(hm:m[id]? =some (.tok ver yv))(hy:RA m φ w y yv){o:AO}{c:Cz}(h:OR m φ w o c):OR m φ w (fzO id ver y o) c:=by
 cases o with
 |row T cs=>
  simp only[fzO,OR] at h⊢
  obtain⟨b,h1,h2,vs,h3,h4⟩:=h
  exact⟨b,h1,h2,vs,h3,RAs_fz hm hy _ _ h4⟩
 |os T k v es=>
  simp only[fzO,OR] at h⊢
  obtain⟨z,xs,h1,h2,h3,h4,h5⟩:=h
  refine⟨z,xs,h1,by rw[List.length_map];exact h2,by rw[nX];exact RAs_fz hm hy _ _ h3,λe he=>?_,h5⟩
  obtain⟨e',he',rfl⟩:=List.mem_map.1 he
  rw[d8,List.length_map]
  exact h4 e' he'
 |_=>exact h
theorem qP(id ver:Nat)(y:AV)(o:AO):(fzO id ver y o).live=o.live:=by cases o<;>rfl
theorem SR_fz{m:List Cz}{φ:Nat→Nat}{w:World}{st:List AO}{id ver:Nat}{y:AV}{yv:Value}(hm:m[id]? =some (.tok ver yv))(hy:RA m φ w y yv)(h:SR m φ st w):SR m φ (st.map (fzO id ver y)) w:=by
 refine⟨by rw[List.length_map];exact h.len,λi o c ho hc=>?_,h.lt,λi j o o' c c' b ho ho' hl hl' hc hc' hb hb'=>?_,h.gl,h.nb⟩
 ·rw[List.getElem?_map,Option.map_eq_some_iff] at ho
  obtain⟨o0,h0,rfl⟩:=ho
  exact OR_fz hm hy (h.obj i o0 c h0 hc)
 ·rw[List.getElem?_map,Option.map_eq_some_iff] at ho ho'
  obtain⟨o0,h0,rfl⟩:=ho
  obtain⟨o1,h1,rfl⟩:=ho'
  rw[qP] at hl hl'
  exact h.inj i j o0 o1 c c' b h0 h1 hl hl' hc hc' hb hb'
def fzE(id ver:Nat)(y:AV)(env:Env):Env:=env.map λp=>(p.1,fzA id ver y p.2)
theorem nY{id ver:Nat}{y:AV}:∀{env:Env}{t:Nat}{x:AV},(fzE id ver y env).get t=some x→∃x0,env.get t=some x0∧x=fzA id ver y x0
 |[],t,x,h=>by cases h
 |(k,v)::env,t,x,h=>by
  have h:(bif Nat.beq t k then some (fzA id ver y v) else Env.get (fzE id ver y env) t)=some x:=h
  show∃x0,(bif Nat.beq t k then some v else Env.get env t)=some x0∧_
  cases hb:Nat.beq t k with
  |true=>rw[hb] at h;exact⟨v,rfl,(inS h).symm⟩
  |false=>rw[hb] at h;exact nY h
theorem gh_fz{e:En}{env:Env}{st:List AO}{id ver T k:Nat}{ds:List (List D)}(hs:st[id]? =some (.os T k ver (ds.map λe=>e.map AV.d))):
  Gh e env st (fzE id ver (.d (.sl ds)) env) ((st.set id .dead).map (fzO id ver (.d (.sl ds)))):=λm φ a w hi=>by
 obtain⟨c,hcm⟩:∃c,m[id]? =some c:=by
  have:id<m.length:=by rw[hi.sr.len];exact(giS.1 hs).1
  exact⟨_,geG this⟩
 obtain⟨yv,xs,rfl,_⟩:=hi.sr.obj id _ _ hs hcm
 obtain⟨φ',f1,f2,f3⟩:=jO hi.sr hs hcm
 have h3:=hi.go f1 f2
 have hy:RA m φ' w (.d (.sl ds)) yv:=by simpa[RA] using f3
 refine⟨m,φ',SR_fz hcm hy h3.sr,h3.ev,⟨λt x hx=>?_,h3.env.gl⟩,h3.sz,h3.df⟩
 obtain⟨x0,g1,rfl⟩:=nY hx
 obtain⟨v,q1,q2⟩:=h3.env.get t x0 g1
 exact⟨v,q1,rC hcm hy _ _ q2⟩
def unD:AV→Option D
 | .d (.v (.slice none 0 0))=>some (.sl [])
 | .d x=>some x
 |_=>none
def rV:List AV→Option (List D)
 |[]=>some []
 |x::l=>match unD x,rV l with
  |some d,some ds=>some (d::ds)
  |_,_=>none
def nr:List (List AV)→Option (List (List D))
 |[]=>some []
 |x::l=>match rV x,nr l with
  |some d,some ds=>some (d::ds)
  |_,_=>none
theorem uS{x:AV}{d:D}(h:unD x=some d):Le x (.d d):=by
 unfold unD at h
 split at h
 ·obtain rfl:=inS h;exact Le.nil
 ·obtain rfl:=inS h;exact Le.refl _
 ·cases h
theorem nu:∀{xs:List AV}{ds:List D},rV xs=some ds→Les xs (ds.map .d)
 |[],ds,h=>by obtain rfl:=inS h;exact Les.refl _
 |x::xs,ds,h=>by
  unfold rV at h
  split at h
  ·rename_i h1 h2
   obtain rfl:=inS h
   exact⟨uS h1,nu h2⟩
  ·cases h
theorem lm:∀{es:List (List AV)}{ds:List (List D)},nr es=some ds→Les es.flatten (ds.map λe=>e.map AV.d).flatten∧es.length=ds.length∧∀k,(∀e∈es,e.length=k)→∀e∈ds.map λe=>e.map AV.d,e.length=k
 |[],ds,h=>by obtain rfl:=inS h;exact⟨Les.refl _,rfl,λk _ e he=>by cases he⟩
 |x::es,ds,h=>by
  unfold nr at h
  split at h
  ·rename_i d ds' h1 h2
   obtain rfl:=inS h
   obtain⟨q1,q2,q3⟩:=lm h2
   have hx:=nu h1
   refine⟨by rw[List.flatten_cons,List.map_cons,List.flatten_cons];exact Les.app hx q1,by simp[q2],λk hk e he=>?_⟩
   rw[List.map_cons] at he
   rcases List.mem_cons.1 he with rfl|he
   ·have:=Les.len hx
    rw[←this];exact hk x List.mem_cons_self
   ·exact q3 k (λe he=>hk e (List.mem_cons_of_mem _ he)) e he
  ·cases h
theorem o5{e:En}{env:Env}{st:List AO}{id ver T k:Nat}{es es':List (List AV)}(hs:st[id]? =some (.os T k ver es))(h:Les es.flatten es'.flatten)(hl:es.length=es'.length)(hk:∀k,(∀e∈es,e.length=k)→∀e∈es',e.length=k):
  Gh e env st env (st.set id (.os T k ver es')):=λm φ a w hi=>by
 refine⟨m,φ,⟨⟨by rw[List.length_set];exact hi.sr.len,λi o c ho hc=>?_,hi.sr.lt,λi j o o' c c' b ho ho' hl1 hl2 hc hc' hb hb'=>?_,hi.sr.gl,hi.sr.nb⟩,hi.ev,hi.env,hi.sz,hi.df⟩⟩
 ·by_cases hid:id=i
  ·subst hid
   rw[List.getElem?_set_self (giS.1 hs).1] at ho
   obtain rfl:=inS ho
   have h0:=hi.sr.obj id _ c hs hc
   simp only[OR] at h0⊢
   obtain⟨z,xs,h1,h2,h3,h4,h5⟩:=h0
   exact⟨z,xs,h1,by rw[←hl];exact h2,h.ras h3,hk _ h4,h5⟩
  ·rw[List.getElem?_set_ne hid] at ho
   exact hi.sr.obj i o c ho hc
 ·have key:∀(i:Nat)(o:AO),(st.set id (.os T k ver es'))[i]? =some o→o.live=true→∃o0:AO,st[i]? =some o0∧o0.live=true:=λi o ho hl=>by
   by_cases hid:id=i
   ·subst hid;exact⟨_,hs,rfl⟩
   ·rw[List.getElem?_set_ne hid] at ho;exact⟨o,ho,hl⟩
  obtain⟨o0,g0,l0⟩:=key i o ho hl1
  obtain⟨o1,g1,l1⟩:=key j o' ho' hl2
  exact hi.sr.inj i j o0 o1 c c' b g0 g1 l0 l1 hc hc' hb hb'
theorem Gh.trans{e:En}{env env' env'':Env}{st st' st'':List AO}(h:Gh e env st env' st')(k:Gh e env' st' env'' st''):Gh e env st env'' st'':=λm φ a w hi=>by
 obtain⟨m',φ',h1⟩:=h m φ a w hi
 exact k m' φ' a w h1
theorem Gh.refl{e:En}{env:Env}{st:List AO}:Gh e env st env st:=λm φ _ _ hi=>⟨m,φ,hi⟩
def vG(id:Nat)(env:Env)(st:List AO):Option (Env×List AO):=match st[id]? with
 |some (.os _ _ ver es)=>(match nr es with
  |some ds=>some (fzE id ver (.d (.sl ds)) env,(st.set id .dead).map (fzO id ver (.d (.sl ds))))
  |none=>none)
 |_=>none
theorem tL{e:En}{id:Nat}{env env':Env}{st st':List AO}(h:vG id env st=some (env',st')):Gh e env st env' st':=by
 unfold vG at h
 split at h
 ·rename_i T k ver es hs
  split at h
  ·rename_i ds hd
   simp only[aa,Prod.mk.injEq] at h
   obtain⟨rfl,rfl⟩:=h
   obtain⟨q1,q2,q3⟩:=lm hd
   refine(o5 hs q1 (by rw[List.length_map];exact q2) q3).trans ?_
   have hlt:=(giS.1 hs).1
   have:=gh_fz (e:=e) (env:=env) (st:=st.set id (.os T k ver (ds.map λe=>e.map AV.d))) (id:=id) (ds:=ds) (List.getElem?_set_self hlt)
   rw[List.set_set] at this
   exact this
  ·cases h
 ·cases h
mutual
def vC(st:List AO):Nat→AV→List Nat
 |0,_=> []
 |n+1,x=>match x with
  | .os id _=>(match st[id]? with
   |some (.os _ _ _ es)=>idsL st n es.flatten++ [id]
   |_=> [])
  | .ag ps=>idsL st n ps
  | .tu ps=>idsL st n ps
  | .fn _ a b=>idsL st n a++idsL st n b
  | .ifc _ y=>vC st n y
  |_=> []
def idsL(st:List AO):Nat→List AV→List Nat
 |0,_=> []
 |_,[]=> []
 |n+1,x::l=>vC st n x++idsL st n l
end
def o7:List Nat→Env→List AO→Option (Env×List AO)
 |[],env,st=>some (env,st)
 |id::l,env,st=>match st[id]? with
  |some .dead=>o7 l env st
  |_=>(match vG id env st with
   |some (env',st')=>o7 l env' st'
   |none=>none)
theorem kF{e:En}:∀{l:List Nat}{env env':Env}{st st':List AO},o7 l env st=some (env',st')→Gh e env st env' st'
 |[],env,env',st,st',h=>by
  simp only[o7,aa,Prod.mk.injEq] at h
  obtain⟨rfl,rfl⟩:=h
  exact Gh.refl
 |id::l,env,env',st,st',h=>by
  unfold o7 at h
  split at h
  ·exact kF h
  ·split at h
   ·rename_i h1
    exact(tL h1).trans (kF h)
   ·cases h
mutual
def leX:Nat→AV→D→Bool
 |0,_,_=>false
 |n+1,x,d=>match x with
  | .ag xs=>(match d with
   | .ag ds=>leXs n xs ds
   |_=>false)
  | .d (.ag ps)=>(match d with
   | .ag ds=>leXs n (ps.map .d) ds
   |_=>false)
  | .d (.v (.slice none 0 0))=>(match d with
   | .sl []=>true
   | .v (.slice none 0 0)=>true
   |_=>false)
  | .d a=>eqD a d
  |_=>false
def leXs:Nat→List AV→List D→Bool
 |0,_,_=>false
 |_,[],[]=>true
 |n+1,x::xs,d::ds=>leX n x d&&leXs n xs ds
 |_,_,_=>false
end
mutual
theorem qE:∀{n:Nat}{x:AV}{d:D},leX n x d=true→Le x (.d d)
 |0,x,d,h=>by simp[leX] at h
 |n+1,x,d,h=>by
  unfold leX at h
  split at h
  ·split at h
   ·exact aK (leXs_ok h)
   ·cases h
  ·split at h
   ·exact(wb _).trans (aK (leXs_ok h))
   ·cases h
  ·split at h
   ·exact Le.nil
   ·exact Le.refl _
   ·cases h
  ·rw[m5 h];exact Le.refl _
  ·cases h
theorem leXs_ok:∀{n:Nat}{xs:List AV}{ds:List D},leXs n xs ds=true→Les xs (ds.map .d)
 |0,xs,ds,h=>by simp[leXs] at h
 |n+1,xs,ds,h=>by
  unfold leXs at h
  split at h
  ·rename_i h0;cases h0
  ·exact Les.refl _
  ·rename_i h0
   cases h0
   rw[Bool.and_eq_true] at h
   exact⟨qE h.1,leXs_ok h.2⟩
  ·cases h
end
theorem vk{P:Program}{f:FuncId}{asz:List AV}{st:List AO}{ds:List D}{y:D}(h:Pu P f ds y)(hl:Les asz (ds.map .d)):Ctr P f asz st (λr' s'=>r'= .d y∧s'=st):=by
 refine⟨h.1,λm φ w vs hs ha=>(gq h hs ha hl).mono ?_⟩
 rintro en w' ⟨v,φ',rfl,hev,hsr,hra,_⟩
 exact⟨v, .d y,st,m,φ',rfl,⟨rfl,rfl⟩,hev,hsr,by simpa[RA] using hra⟩
def knX:List (FuncId×List D×D)→ap
 |[],_,_,_=>none
 |(g,ds,y)::tab,f,asz,st=>bif Nat.beq g f&&leXs 100 asz ds then some (.d y,st) else knX tab f asz st
theorem kz{P:Program}:∀{tab:List (FuncId×List D×D)},(∀p∈tab,Pu P p.1 p.2.1 p.2.2)→aE P (knX tab)
 |[],_,f,asz,st,r,st',h=>by cases h
 |(g,ds,y)::tab,ht,f,asz,st,r,st',h=>by
  unfold knX at h
  cases hb:Nat.beq g f&&leXs 100 asz ds with
  |false=>rw[hb] at h;exact kz (λp hp=>ht p (List.mem_cons_of_mem _ hp)) f asz st r st' h
  |true=>
   rw[hb] at h
   simp only[cdT,aa,Prod.mk.injEq] at h
   obtain⟨rfl,rfl⟩:=h
   rw[Bool.and_eq_true] at hb
   have e:=nbE hb.1
   subst e
   exact vk (ht _ List.mem_cons_self) (leXs_ok hb.2)
end Go.Sk
