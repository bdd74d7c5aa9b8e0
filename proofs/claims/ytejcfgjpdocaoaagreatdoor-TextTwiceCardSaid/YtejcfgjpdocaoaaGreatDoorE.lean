/-
  A store of slices of our own into cells of a slice of our own.
-/
import Derived.Maps.RangeRun
import Derived.Laws.IdiomStrings
import Derived.Test.YtejcfgjpdocaoaaGreatDoorT
set_option linter.unusedVariables false
set_option linter.unusedSimpArgs false
set_option linter.unusedSectionVars false
set_option linter.unnecessarySimpa false
namespace Go.Sk
open Go.RowKit (Below)
section
variable{P:Program}{env:Env}{st st':List AO}{dst:Option Tmp}{ty:TypeId}{pos:String}{after:Array Edge}{guard:Option (Nat×Bool)}
theorem oU{T:TypeId}{x y:Operand}{id ver off n T' k:Nat}{es es':List (List AV)}{r:AV}{rs:List AV}(hx:opv env x=some (.pe id ver off))(hs:st[id]? =some (.os T' k ver es))(hy:opv env y=some r)(hk:r.okS st=true)(hc:r.cells=rs)(hk1:rs.all (AV.ok1S st)=true)
  (hn:bc P T=some n)(hl:rs.length=n)(hlen:off+n≤es.flatten.length)(hes:es'.flatten=es.flatten.take off++rs++es.flatten.drop (off+n))(hel:es'.length=es.length)(hek:∀e∈es',e.length=k):
  Does P env st ⟨dst, .store T x y,ty,pos,after,guard⟩ (.d (.v undef)) (st.set id (.os T' k ver es')):=λm φ a w hsr he=>by
 obtain⟨b,len,cap,xs,g1,g2,g3,g4,g5,g6⟩:=jB hsr he hx hs
 obtain⟨us,q1,q2⟩:=fw hsr (aI he hy) hk
 rw[hc] at q2
 have hul:=aH q2
 have hxl:=aH g4
 obtain⟨r1,r2⟩:=g3
 rcases r2 with⟨hv,_⟩|⟨g,cap',cur,hv,p1,p2,p3,p4,p5,p6⟩
 ·cases hv
 simp only[Value.slice.injEq,ak,Addr.mk.injEq,and_true] at hv
 obtain⟨rfl,rfl,rfl⟩:=hv
 have hcl:es.length*k≤cur.size:=by rw[p5];exact Nat.mul_le_mul_right _ p3
 have hfl:es.flatten.length=es.length*k:=oM
 have hst:=run_storeCells_at P b off T' us 0 cur w p2 oM (ji hsr q2 hk1)
 simp only[Nat.add_zero,hul,hl] at hst
 have hsize:us.length=n:=oM
 have hnew:RAs m φ w es'.flatten (xs.take off++us++xs.drop (off+n)):=by rw[hes];exact aC (aC (bK off g4) q2) (bP _ g4)
 have htk:((cur.toList.take off++us++cur.toList.drop (off+n)).toArray.toList).take (es.length*k)=xs.take off++us++xs.drop (off+n):=by
  rw[←p6]
  apply List.ext_getElem?
  intro j
  have hcz:cur.toList.length=cur.size:=sM
  simp only[List.getElem?_take,List.getElem?_append,List.length_append,List.length_take,List.getElem?_drop,hsize,hcz]
  rw[Nat.min_eq_left (show off≤cur.size by omega),Nat.min_eq_left (show es.length*k≤cur.size by omega),Nat.min_eq_left (show off≤es.length*k by omega)]
  by_cases h1:j<es.length*k
  ·rw[if_pos h1]
   by_cases h2:j<off+n
   ·rw[if_pos h2,if_pos h2]
    by_cases h3:j<off
    ·simp only[if_pos h3,if_pos h1]
    ·simp only[if_neg h3]
   ·rw[if_neg h2,if_neg h2]
    have:off+n+(j - (off+n))=j:=oM
    rw[this,if_pos h1]
  ·rw[if_neg h1,if_neg (show¬j<off+n by omega)]
   have:off+n+(j - (off+n))=j:=oM
   rw[this,if_neg h1]
 obtain⟨k1,k2⟩:=pI hsr hs g1 hnew hel hek cur p2 (cur.toList.take off++us++cur.toList.drop (off+n)).toArray (by simp[hsize];omega) htk
 refine⟨undef,_,m,φ, .inr ⟨?_,rfl⟩,k1,k2,RAv⟩
 simp[execOp,Instr.storeAt,Instr.sureAddr,g2,storeVar,q1,aA hn,hsize,hst]
end
open Go.MapKept (IsKey sameNow_of_keys run_checkKey run_findKey run_keyThatStays)
def ixL{κ:Type}[DecidableEq κ]:List κ→κ→Option Nat
 |[],_=>none
 |a::l,k=>if a=k then some 0 else(ixL l k).map (·+1)
theorem qR{κ:Type}[DecidableEq κ]{k:κ}:∀{L:List κ}{j:Nat},ixL L k=some j→L[j]? =some k
 |[],_,h=>by cases h
 |a::L,j,h=>by
  unfold ixL at h
  by_cases hp:a=k
  ·rw[if_pos hp] at h
   obtain rfl:=inS h
   rw[hp];rfl
  ·rw[if_neg hp,Option.map_eq_some_iff] at h
   obtain⟨i,h1,rfl⟩:=h
   rw[List.getElem?_cons_succ]
   exact qR h1
structure KeyX(P:Program){κ:Type}[DecidableEq κ](kt:TypeId)(kf:κ→Value):Prop where
 chk:∀em k w,(Instr.checkKey em 10000 kt (kf k)).run P w= .ok () w
 find:∀(k:κ)(L:List κ)(l:List MapEntry)(w:World),l.map (·.key)=L.map kf→(Instr.findKey kt (kf k) l).run P w= .ok ((ixL L k).bind λj=>(l[j]?).map λe=>(j,e.val)) w
 stays:∀k w,(Instr.keyThatStays (kf k) (kf k)).run P w= .ok (kf k) w
section
variable{κ:Type}[DecidableEq κ]{P:Program}{d:TypeDesc}{kt:TypeId}{kf:κ→Value}
theorem lv(hK:KeyF d kf)(k:κ):∀(L:List κ)(l:List MapEntry)(i:Nat),l.map (·.key)=L.map kf→Instr.findNow d (kf k) l i=some ((ixL L k).bind λj=>(l[j]?).map λe=>(i+j,e.val))
 |[],[],i,_=>rfl
 |a::L,e::l,i,h=>by
  simp only[List.map_cons,List.cons.injEq] at h
  obtain⟨r,hr,hiff⟩:=sameNow_of_keys (hK.key k) (h.1▸hK.key a:IsKey d e.key)
  by_cases hp:a=k
  ·have:r=true:=hiff.2 (by rw[h.1,hp])
   simp[Instr.findNow,hr,this,ixL,hp]
  ·have hne:r=false:=by
    cases r with
    |false=>rfl
    |true=>exact absurd (hK.inj _ _ ((hiff.1 rfl).trans h.1)).symm hp
   rw[show ixL (a::L) k=(ixL L k).map (·+1) by rw[ixL,if_neg hp]]
   simp only[Instr.findNow,hr,hne,lv hK k L l (i+1) h.2]
   cases ixL L k with
   |none=>rfl
   |some j=>
    simp only[bnS,Option.map_some,List.getElem?_cons_succ]
    rw[show i+1+j=i+(j+1) by omega]
 |[],_::_,_,h=>by simp at h
 |_::_,[],_,h=>by simp at h
theorem gW(hK:KeyS P kt kf)(k:κ)(w:World):∀(L:List κ)(l:List MapEntry)(i:Nat),l.map (·.key)=L.map kf→(Instr.findAsking kt (kf k) l i).run P w= .ok ((ixL L k).bind λj=>(l[j]?).map λe=>(i+j,e.val)) w
 |[],[],i,_=>by simp[Instr.findAsking,ixL]
 |a::L,e::l,i,h=>by
  simp only[List.map_cons,List.cons.injEq] at h
  have hr:=hK.eq k a w
  rw[←h.1] at hr
  by_cases hp:a=k
  ·simp[Instr.findAsking,hr,hp,ixL]
  ·have hp':¬k=a:=λe=>hp e.symm
   rw[show ixL (a::L) k=(ixL L k).map (·+1) by rw[ixL,if_neg hp]]
   simp only[Instr.findAsking,Sem.run_bind,hr,hp',decide_false,Result.andThen_ok,Bool.false_eq_true,if_false,gW hK k w L l (i+1) h.2]
   cases ixL L k with
   |none=>rfl
   |some j=>
    simp only[bnS,Option.map_some,List.getElem?_cons_succ]
    rw[show i+1+j=i+(j+1) by omega]
 |[],_::_,_,h=>by simp at h
 |_::_,[],_,h=>by simp at h
theorem uW(hd:P.underlying kt=some d)(hK:KeyF d kf):KeyX P kt kf:=
 ⟨λem k w=>by simp[run_checkKey hd (hK.key k)],λk L l w h=>run_findKey hd (by simpa using lv hK k L l 0 h),λk w=>by simp[run_keyThatStays (hK.key k)]⟩
theorem uV(hK:KeyS P kt kf):KeyX P kt kf:=
 ⟨hK.chk,λk L l w h=>by rw[run_findKey_eq (P:=P) w hK.wide (kf k) l];simpa using gW hK k w L l 0 h,λk w=>gu hK k w⟩
end
inductive KDk where
 |i(k:IntKind)
 |p(k1 k2:IntKind)
def mE(P:Program)(kt:TypeId):Option KDk:=match P.underlying kt with
 |some (.int k)=>some (.i k)
 |some (.struct fs)=>(match fs.toList with
  |[f1,f2]=>(match P.underlying f1.type,P.underlying f2.type,j9 P 100 kt with
   |some (.int k1),some (.int k2),some [.int k1', .int k2']=>bif decide (k1=k1')&&(decide (k2=k2')&&(Nat.beq f1.offset 0&&Nat.beq f2.offset 1)) then some (.p k1 k2) else none
   |_,_,_=>none)
  |_=>none)
 |_=>none
def dkI(k:IntKind):Value→Option Int
 | .int k' i=>bif decide (k=k') then some i else none
 |_=>none
def dkP(k1 k2:IntKind):Value→Option (Int×Int)
 | .agg a=>(match a.toList with
  |[.int a1 i, .int a2 j]=>bif decide (k1=a1)&&decide (k2=a2) then some (i,j) else none
  |_=>none)
 |_=>none
theorem uz{k:IntKind}{v:Value}{i:Int}(h:dkI k v=some i):v= .int k i:=by
 unfold dkI at h
 split at h
 ·rename_i k' j
  cases hb:decide (k=k') with
  |true=>rw[hb] at h;obtain rfl:=inS h;rw[of_decide_eq_true hb]
  |false=>rw[hb] at h;cases h
 ·cases h
theorem uy{k1 k2:IntKind}{v:Value}{x:Int×Int}(h:dkP k1 k2 v=some x):v= .agg ⟨[.int k1 x.1, .int k2 x.2]⟩:=by
 unfold dkP at h
 split at h
 ·rename_i a
  split at h
  ·rename_i a1 i a2 j hl
   cases hb:decide (k1=a1)&&decide (k2=a2) with
   |true=>
    rw[hb] at h
    obtain rfl:=inS h
    rw[Bool.and_eq_true] at hb
    obtain⟨a⟩:=a
    simp only at hl
    rw[hl,of_decide_eq_true hb.1,of_decide_eq_true hb.2]
   |false=>rw[hb] at h;cases h
  ·cases h
 ·cases h
theorem qQ{P:Program}{kt:TypeId}{k:IntKind}(h:mE P kt=some (.i k)):KeyX P kt (λx:Int=>Value.int k x):=by
 unfold mE at h
 split at h
 ·rename_i k' hu
  simp only[ak,KDk.i.injEq] at h
  subst h
  exact uW hu (KeyF.int _)
 ·split at h
  ·split at h
   ·rw[Bool.cond_eq_ite] at h
    split at h<;>cases h
   ·cases h
  ·cases h
 ·cases h
theorem qP{P:Program}{kt:TypeId}{k1 k2:IntKind}(h:mE P kt=some (.p k1 k2)):KeyX P kt (λx:Int×Int=>Value.agg ⟨[.int k1 x.1, .int k2 x.2]⟩):=by
 unfold mE at h
 split at h
 ·cases h
 ·rename_i fs hu
  split at h
  ·rename_i f1 f2 hf
   split at h
   ·rename_i a1 a2 b1 b2 h1 h2 h3
    cases hb:(decide (a1=b1)&&(decide (a2=b2)&&(Nat.beq f1.offset 0&&Nat.beq f2.offset 1))) with
    |true=>
     rw[hb] at h
     simp only[cdT,ak,KDk.p.injEq] at h
     obtain⟨rfl,rfl⟩:=h
     simp only[Bool.and_eq_true] at hb
     obtain⟨c1,c2,c3,c4⟩:=hb
     have c1:=of_decide_eq_true c1
     have c2:=of_decide_eq_true c2
     subst c1 c2
     obtain⟨fs⟩:=fs
     simp only at hf
     subst hf
     exact uV (jR hu h1 h2 (nbE c3) (nbE c4) h3)
    |false=>rw[hb] at h;cases h
   ·cases h
  ·cases h
 ·cases h
def oI{κ:Type}(dk:Value→Option κ):List (Value×Nat)→Option (List κ)
 |[]=>some []
 |p::l=>match dk p.1,oI dk l with
  |some k,some ks=>some (k::ks)
  |_,_=>none
theorem lm{κ:Type}{dk:Value→Option κ}{kf:κ→Value}(hd:∀v k,dk v=some k→v=kf k):∀{es:List (Value×Nat)}{L:List κ},oI dk es=some L→es.map (·.1)=L.map kf
 |[],L,h=>by obtain rfl:=inS h;rfl
 |p::l,L,h=>by
  unfold oI at h
  split at h
  ·rename_i h1 h2
   obtain rfl:=inS h
   rw[List.map_cons,List.map_cons,hd _ _ h1,lm hd h2]
  ·cases h
def qm:List AV→Option (List Value)
 |[]=>some []
 | .d (.v v)::l=>match qm l with
  |some vs=>some (v::vs)
  |none=>none
 |_=>none
def qo:List D→Option (List Value)
 |[]=>some []
 | .v v::l=>match qo l with
  |some vs=>some (v::vs)
  |none=>none
 |_=>none
def agV:AV→Option (List Value)
 | .ag ps=>qm ps
 | .d (.ag ds)=>qo ds
 |_=>none
theorem n6:∀{ps:List AV}{vs:List Value},qm ps=some vs→ps=(vs.map D.v).map AV.d
 |[],vs,h=>by obtain rfl:=inS h;rfl
 |x::l,vs,h=>by
  unfold qm at h
  split at h
  ·rename_i h0;cases h0
  ·rename_i v l' h0
   obtain⟨rfl,rfl⟩:=List.cons.inj h0
   split at h
   ·rename_i vs' h1
    obtain rfl:=inS h
    rw[n6 h1]
    rfl
   ·cases h
  ·cases h
theorem n7:∀{ps:List D}{vs:List Value},qo ps=some vs→ps=vs.map D.v
 |[],vs,h=>by obtain rfl:=inS h;rfl
 |x::l,vs,h=>by
  unfold qo at h
  split at h
  ·rename_i h0;cases h0
  ·rename_i v l' h0
   obtain⟨rfl,rfl⟩:=List.cons.inj h0
   split at h
   ·rename_i vs' h1
    obtain rfl:=inS h
    rw[n7 h1]
    rfl
   ·cases h
  ·cases h
theorem lX{x:AV}{vs:List Value}(h:agV x=some vs):Le x (.d (.ag (vs.map D.v))):=by
 unfold agV at h
 split at h
 ·rw[n6 h];exact aK (Les.refl _)
 ·rw[n7 h];exact Le.refl _
 ·cases h
def vZ(x:AV):Option Value:=match x with
 | .d (.v v)=>some v
 |x=>(agV x).map λvs=> .agg ⟨vs⟩
theorem qO{m φ w}{x:AV}{v y:Value}(h:vZ x=some v)(hr:RA m φ w x y):y=v:=by
 unfold vZ at h
 split at h
 ·obtain rfl:=inS h
  simpa[RA,RD] using hr
 ·rw[Option.map_eq_some_iff] at h
  obtain⟨vs,h1,rfl⟩:=h
  have:=lX h1 _ _ _ _ hr
  simp only[RA,RD] at this
  obtain⟨cs,e1,e2⟩:=this
  rw[eG e2] at e1
  exact e1
def lkG{κ:Type}[DecidableEq κ](dk:Value→Option κ)(es:List (Value×Nat))(xs:List AV)(zv kv:Value):Option (AV×Bool):=
 match dk kv,oI dk es with
 |some k,some L=>(match ixL L k with
  |some j=>(match xs[j]? with
   |some x=>some (x,true)
   |none=>none)
  |none=>some (fQ zv,false))
 |_,_=>none
def lkD(P:Program)(kt:TypeId)(es:List (Value×Nat))(xs:List AV)(zv kv:Value):Option (AV×Bool):=match mE P kt with
 |some (.i k)=>lkG (dkI k) es xs zv kv
 |some (.p k1 k2)=>lkG (dkP k1 k2) es xs zv kv
 |none=>none
def tuB(c:Bool)(r:AV×Bool):AV:=bif c then .tu [r.1, .d (.v (.bool r.2))] else r.1
def lkX(P:Program)(env:Env)(st:List AO)(T:TypeId)(x ki:Operand)(c:Bool):Option AV:=
 match P.underlying T,opv env x,(opv env ki).bind vZ with
 |some (.map kt et),some xr,some kv=>(match(P.info? et).bind (·.zero),xr with
  |some zv, .mp id=>(match st[id]? with
   |some (.mb es xs _)=>(match lkD P kt es xs zv kv with
    |some r=>some (tuB c r)
    |none=>none)
   |_=>none)
  |some zv, .d (.v (.map none))=>(match lkD P kt [] [] zv kv with
   |some r=>some (tuB c r)
   |none=>none)
  |_,_=>none)
 |_,_,_=>none
def muG{κ:Type}[DecidableEq κ](dk:Value→Option κ)(es:List (Value×Nat))(xs:List AV)(cl:Nat)(kv:Value)(uu:AV):Option AO:=
 match dk kv,oI dk es with
 |some k,some L=>(match ixL L k with
  |some j=>some (.mb es (xs.set j uu) cl)
  |none=>some (.mb (es++ [(kv,cl)]) (xs++ [uu]) (cl+1)))
 |_,_=>none
def muX(P:Program)(env:Env)(st:List AO)(T:TypeId)(x ki v:Operand):Option (AV×List AO):=
 match P.underlying T,opv env x,(opv env ki).bind vZ,opv env v with
 |some (.map kt _),some (.mp id),some kv,some uu=>(match st[id]? with
  |some (.mb es xs cl)=>(match(match mE P kt with
    |some (.i k)=>muG (dkI k) es xs cl kv uu
    |some (.p k1 k2)=>muG (dkP k1 k2) es xs cl kv uu
    |none=>none) with
   |some o=>some (.d (.v undef),st.set id o)
   |none=>none)
  |_=>none)
 |_,_,_,_=>none
def rgX(P:Program)(env:Env)(st:List AO)(T:TypeId)(x:Operand):Option (AV×List AO):=
 match P.underlying T,opv env x with
 |some (.map _ _),some (.mp id)=>(match st[id]? with
  |some (.mb _ _ cl)=>some (.pt st.length 0,st++ [.it (.mp id) cl [] cl])
  |_=>none)
 |some (.map _ _),some (.d (.v (.map none)))=>some (.pt st.length 0,st++ [.it (.d (.v (.map none))) 0 [] 0])
 |_,_=>none
def rh(es:List (Value×Nat))(s:Nat):Option Nat:=match es with
 |[]=>none
 |p::l=>bif Nat.beq p.2 s then some 0 else(match rh l s with
  |some j=>some (j+1)
  |none=>none)
def enX(env:Env)(st:List AO)(x:Operand):Option AV:=match opv env x with
 |some (.pt iid 0)=>(match st[iid]? with
  |some (.it (.mp id) _ seen stp)=>(match seen.getLast?,st[id]? with
   |some s,some (.mb es xs cl)=>bif Nat.beq cl stp then(match rh es s with
    |some j=>(match es[j]?,xs[j]? with
     |some p,some r=>some (.tu [fQ p.1,r])
     |_,_=>none)
    |none=>none) else none
   |_,_=>none)
  |_=>none)
 |_=>none
section
variable{P:Program}{env:Env}{st:List AO}{dst:Option Tmp}{ty:TypeId}{pos:String}{after:Array Edge}{guard:Option (Nat×Bool)}
theorem tJ{κ:Type}[DecidableEq κ]{dk:Value→Option κ}{kf:κ→Value}(hd:∀v k,dk v=some k→v=kf k){kt:TypeId}(hK:KeyX P kt kf){es:List (Value×Nat)}{xs:List AV}{zv kv:Value}{r:AV×Bool}(h:lkG dk es xs zv kv=some r)
  {m φ w}{l:List MapEntry}(q2:l.map (λe=>(e.key,e.born))=es)(q3:RAs m φ w xs (l.map (·.val))):
  (∀w' em,(Instr.checkKey em 10000 kt kv).run P w'= .ok () w')∧((r=(fQ zv,false)∧∀w',(Instr.findKey kt kv l).run P w'= .ok none w')∨∃j v,r.2=true∧RA m φ w r.1 v∧∀w',(Instr.findKey kt kv l).run P w'= .ok (some (j,v)) w'):=by
 unfold lkG at h
 split at h
 ·rename_i k L hk hL
  have e1:=hd _ _ hk
  subst e1
  have hkeys:l.map (·.key)=L.map kf:=by rw[←lm hd hL,←q2,List.map_map];rfl
  have hf:=λw'=>hK.find k L l w' hkeys
  refine⟨λw' em=>hK.chk em k w',?_⟩
  split at h
  ·rename_i j hj
   split at h
   ·rename_i x hx
    obtain rfl:=inS h
    obtain⟨v,h1,h2⟩:=bV q3 hx
    rw[List.getElem?_map,Option.map_eq_some_iff] at h1
    obtain⟨e,h3,rfl⟩:=h1
    refine .inr ⟨j,e.val,rfl,h2,λw'=>?_⟩
    rw[hf w',hj,bnS,h3,Option.map_some]
   ·cases h
  ·rename_i hj
   obtain rfl:=inS h
   exact .inl ⟨rfl,λw'=>by rw[hf w',hj,Option.bind_none]⟩
 ·cases h
theorem tK{kt:TypeId}{es:List (Value×Nat)}{xs:List AV}{zv kv:Value}{r:AV×Bool}(h:lkD P kt es xs zv kv=some r)
  {m φ w}{l:List MapEntry}(q2:l.map (λe=>(e.key,e.born))=es)(q3:RAs m φ w xs (l.map (·.val))):
  (∀w' em,(Instr.checkKey em 10000 kt kv).run P w'= .ok () w')∧((r=(fQ zv,false)∧∀w',(Instr.findKey kt kv l).run P w'= .ok none w')∨∃j v,r.2=true∧RA m φ w r.1 v∧∀w',(Instr.findKey kt kv l).run P w'= .ok (some (j,v)) w'):=by
 unfold lkD at h
 split at h
 ·rename_i hk;exact tJ (λ_ _=>uz) (qQ hk) h q2 q3
 ·rename_i hk;exact tJ (λ_ _=>uy) (qP hk) h q2 q3
 ·cases h
theorem xW{T:TypeId}{x ki:Operand}{c:Bool}{r:AV}(h:lkX P env st T x ki c=some r):Yields P env st ⟨dst, .lookup T x ki c,ty,pos,after,guard⟩ r:=λm φ a w hs he=>by
 unfold lkX at h
 split at h
 ·rename_i kt et xr kv hT hx hk
  obtain⟨ka,hk1,hk2⟩:=bC hk
  have hkv:a.eval ki=kv:=qO hk2 (aI he hk1)
  have htu:∀{r0:AV×Bool}{v:Value},RA m φ w r0.1 v→RA m φ w (tuB c r0) (if c then .tuple #[v, .bool r0.2] else v):=λ{r0 v} h9=>by
   cases c with
   |true=>simp only[tuB,cdT,if_true,RA];exact⟨_,rfl,aS h9 (aS RAv bF)⟩
   |false=>simpa[tuB] using h9
  split at h
  ·rename_i zv id hz
   cases hinf:P.info? et with
   |none=>simp[hinf] at hz
   |some inf=>
    simp only[hinf,bnS] at hz
    split at h
    ·rename_i es xs cl hst
     split at h
     ·rename_i r0 hr0
      obtain rfl:=inS h
      obtain⟨b,h1,h2⟩:=gk he hx
      obtain⟨b',hbb,h0,l,g1,g2,g3⟩:=hs.obj id _ _ hst h1
      simp only[Cz.blk.injEq] at hbb
      subst hbb
      have hlt:=bE g1
      obtain⟨p1,p2⟩:=tK hr0 g2 g3
      rcases p2 with⟨rfl,p2⟩|⟨j,v,p2,p3,p4⟩
      ·refine⟨if c then .tuple #[zv, .bool false] else zv,htu (jk zv),λw' hb=>?_⟩
       have g1':w'.heap[b]? =some (.map ⟨l⟩ cl):=by rw[hb.block b hlt];exact g1
       simp[execOp,Instr.lookup,h2,hkv,run_underlying hT,MapKept.run_getObj_map g1',p1,p2,zeroValue,typeInfo,hinf,hz,Result.andThen]
      ·refine⟨if c then .tuple #[v, .bool true] else v,by have:=htu p3;rw[p2] at this;exact this,λw' hb=>?_⟩
       have g1':w'.heap[b]? =some (.map ⟨l⟩ cl):=by rw[hb.block b hlt];exact g1
       simp[execOp,Instr.lookup,h2,hkv,run_underlying hT,MapKept.run_getObj_map g1',p1,p4,Result.andThen]
     ·cases h
    ·cases h
  ·rename_i zv hz
   cases hinf:P.info? et with
   |none=>simp[hinf] at hz
   |some inf=>
    simp only[hinf,bnS] at hz
    split at h
    ·rename_i r0 hr0
     obtain rfl:=inS h
     have h2:=aF he hx
     obtain⟨p1,p2⟩:=tK (m:=m) (φ:=φ) (w:=w) (l:=[]) hr0 rfl bF
     rcases p2 with⟨rfl,p2⟩|⟨j,v,p2,p3,p4⟩
     ·refine⟨if c then .tuple #[zv, .bool false] else zv,htu (jk zv),λw' hb=>?_⟩
      simp[execOp,Instr.lookup,h2,hkv,run_underlying hT,p1,p2,zeroValue,typeInfo,hinf,hz,Result.andThen]
     ·refine⟨if c then .tuple #[v, .bool true] else v,by have:=htu p3;rw[p2] at this;exact this,λw' hb=>?_⟩
      simp[execOp,Instr.lookup,h2,hkv,run_underlying hT,p1,p4,Result.andThen]
    ·cases h
  ·cases h
 ·cases h
end
theorem vW{m φ w}{st:List AO}{id b cl cl':Nat}{es es':List (Value×Nat)}{xs xs':List AV}{l:List MapEntry}(hs:SR m φ st w)(hi:st[id]? =some (.mb es xs cl))(hb:m[id]? =some (.blk b))(hkeys:l.map (λe=>(e.key,e.born))=es')(hv:RAs m φ w xs' (l.map (·.val))):
  Ev m φ w m φ { w with heap:=w.heap.setIfInBounds b (.map ⟨l⟩ cl') }∧SR m φ (st.set id (.mb es' xs' cl')) { w with heap:=w.heap.setIfInBounds b (.map ⟨l⟩ cl') }:=by
 obtain⟨b',hbb,h0,l0,h1,h2,h3⟩:=hs.obj id _ _ hi hb
 simp only[Cz.blk.injEq] at hbb
 subst hbb
 have hlt:=bE h1
 have hne:∀b2,b2≠b→(w.heap.setIfInBounds b (.map ⟨l⟩ cl'))[b2]? =w.heap[b2]? :=λb2 hn=>by simp[Ne.symm hn]
 have hF:Fz φ w φ { w with heap:=w.heap.setIfInBounds b (.map ⟨l⟩ cl') }:=λb2 off c g1 g2=>⟨g1,by
  have hn:b2≠b:=λe=>by subst e;omega
  rw[aN (w':={ w with heap:=w.heap.setIfInBounds b (.map ⟨l⟩ cl') }) (hne b2 hn)];exact g2⟩
 have hset:m.set id (.blk b)=m:=by
  apply List.ext_getElem?
  intro i
  by_cases hii:id=i
  ·subst hii;rw[List.getElem?_set_self (giS.1 hb).1,hb]
  ·rw[List.getElem?_set_ne hii]
 have:=d9 (w':={ w with heap:=w.heap.setIfInBounds b (.map ⟨l⟩ cl') }) (φ':=φ) (o':= .mb es' xs' cl') (c':= .blk b) hs hi rfl hb rfl rfl rfl rfl sM (λb2 hb2 hn=>⟨hne b2 (λe=>hn (by rw[e];rfl)),rfl⟩) hF (λb2 hb2=>hs.lt b2 (by simpa using hb2)) (λb2 hb2=> .inl hb2)
  (by rw[hset];exact⟨b,rfl,h0,l,by simp[hlt],hkeys,RAs.mono (Pre.refl m) hF _ _ hv⟩)
 rwa [hset] at this
section
variable{P:Program}{env:Env}{st:List AO}{dst:Option Tmp}{ty:TypeId}{pos:String}{after:Array Edge}{guard:Option (Nat×Bool)}
theorem tA{κ:Type}[DecidableEq κ]{dk:Value→Option κ}{kf:κ→Value}(hd:∀v k,dk v=some k→v=kf k){T kt et:TypeId}(hK:KeyX P kt kf)(hT:P.underlying T=some (.map kt et)){es:List (Value×Nat)}{xs:List AV}{cl:Nat}{kv:Value}{uu:AV}{o':AO}
  (h:muG dk es xs cl kv uu=some o'){m φ w}{b:Nat}{val:Value}{l:List MapEntry}(hb:w.heap[b]? =some (.map ⟨l⟩ cl))(q2:l.map (λe=>(e.key,e.born))=es)(q3:RAs m φ w xs (l.map (·.val)))(hu:RA m φ w uu val):
  ∃l' cl' es' xs',o'= .mb es' xs' cl'∧(Instr.mapUpdate T (.map (some b)) kv val).run P w= .ok () { w with heap:=w.heap.setIfInBounds b (.map ⟨l'⟩ cl') }∧l'.map (λe=>(e.key,e.born))=es'∧RAs m φ w xs' (l'.map (·.val)):=by
 unfold muG at h
 split at h
 ·rename_i k L hk hL
  have e1:=hd _ _ hk
  subst e1
  have hkeys:l.map (·.key)=L.map kf:=by rw[←lm hd hL,←q2,List.map_map];rfl
  have hf:=hK.find k L l w hkeys
  split at h
  ·rename_i j hj
   obtain rfl:=inS h
   have hLj:=qR hj
   have hlj:(l.map (·.key))[j]? =some (kf k):=by rw[hkeys,List.getElem?_map,hLj];rfl
   rw[List.getElem?_map,Option.map_eq_some_iff] at hlj
   obtain⟨e,he,hek⟩:=hlj
   rw[hj,bnS,he,Option.map_some] at hf
   refine⟨l.modify j (λe'=>{ e' with key:=kf k,val:=val }),cl,es,_,rfl,?_,?_,?_⟩
   ·simp[Instr.mapUpdate,run_underlying hT,MapKept.run_getObj_map hb,hK.chk,hf,he,hek,hK.stays,MapKept.run_setObj_map _ hb,Result.andThen]
   ·rw[←q2]
    apply List.ext_getElem?
    intro i
    rw[List.getElem?_map,List.getElem?_map,List.getElem?_modify]
    by_cases hij:j=i
    ·subst hij;simp[he,hek]
    ·simp[hij]
   ·have:(l.modify j (λe'=>{ e' with key:=kf k,val:=val })).map (·.val)=(l.map (·.val)).set j val:=by
     apply List.ext_getElem?
     intro i
     rw[List.getElem?_map,List.getElem?_modify,List.getElem?_set]
     by_cases hij:j=i
     ·subst hij;simp[he,(giS.1 he).1]
     ·simp[hij]
    rw[this]
    exact jg q3 hu
  ·rename_i hj
   obtain rfl:=inS h
   rw[hj,Option.bind_none] at hf
   refine⟨l++ [⟨kf k,val,cl⟩],cl+1,_,_,rfl,?_,by simp[q2],by rw[List.map_append];exact aC q3 (aS hu bF)⟩
   simp[Instr.mapUpdate,run_underlying hT,MapKept.run_getObj_map hb,hK.chk,hf,MapKept.run_setObj_map _ hb,Result.andThen]
 ·cases h
theorem tz{T:TypeId}{x ki v:Operand}{o:Oper}{r:AV}{st':List AO}(ho:o=⟨dst, .insert T x ki v,ty,pos,after,guard⟩∨o=⟨dst, .mapUpdate T x ki v,ty,pos,after,guard⟩)(h:muX P env st T x ki v=some (r,st')):Does P env st o r st':=λm φ a w hs he=>by
 unfold muX at h
 split at h
 ·rename_i kt et id kv uu hT hx hk hv
  obtain⟨ka,hk1,hk2⟩:=bC hk
  have hkv:a.eval ki=kv:=qO hk2 (aI he hk1)
  split at h
  ·rename_i es xs cl hst
   obtain⟨b,h1,h2⟩:=gk he hx
   obtain⟨b',hbb,h0,l,g1,g2,g3⟩:=hs.obj id _ _ hst h1
   simp only[Cz.blk.injEq] at hbb
   subst hbb
   have hu:=aI he hv
   split at h
   ·rename_i o' ho'
    simp only[ak,Prod.mk.injEq] at h
    obtain⟨rfl,rfl⟩:=h
    have key:∃l' cl' es' xs',o'= .mb es' xs' cl'∧(Instr.mapUpdate T (.map (some b)) kv (a.eval v)).run P w= .ok () { w with heap:=w.heap.setIfInBounds b (.map ⟨l'⟩ cl') }∧l'.map (λe=>(e.key,e.born))=es'∧RAs m φ w xs' (l'.map (·.val)):=by
     split at ho'
     ·rename_i hd;exact tA (λ_ _=>uz) (qQ hd) hT ho' g1 g2 g3 hu
     ·rename_i hd;exact tA (λ_ _=>uy) (qP hd) hT ho' g1 g2 g3 hu
     ·cases ho'
    obtain⟨l',cl',es',xs',rfl,k1,k2,k3⟩:=key
    obtain⟨p1,p2⟩:=vW (cl':=cl') hs hst h1 k2 k3
    refine⟨undef,_,m,φ, .inr ⟨?_,rfl⟩,p1,p2,RAv⟩
    rcases ho with rfl|rfl<;>simp[execOp,h2,hkv,k1]
   ·cases h
  ·cases h
 ·cases h
theorem tB{T:TypeId}:DoesB P env st ⟨dst, .makeMap T none,ty,pos,after,guard⟩ (.mp st.length) (st++ [.mb [] [] 0]):=λm φ a w hs he=>by
 have hF:=Fz.alloc hs (.map #[] 0)
 have hk:∀b,b<w.heap.size→(w.alloc (.map #[] 0)).heap[b]? =w.heap[b]? :=λb hb=>ba hb
 have hnew:∀b,(Cz.blk w.heap.size).has b→w.heap.size≤b:=λb hb=>by simp only[Cz.has] at hb;omega
 refine⟨.map (some w.heap.size),w.alloc (.map #[] 0),m++ [.blk w.heap.size],φ,rfl,Ev.push hs hF hk sM rfl rfl rfl hnew,SR.push hs hF hk sM ?_ hnew,?_,(Below.refl _ _).alloc (Nat.le_refl _) _⟩
 ·exact⟨w.heap.size,rfl,hs.lt _ (Nat.le_refl _),[],heap_alloc_new w _,rfl,bF⟩
 ·simp only[RA];exact⟨_,by rw[←hs.len];simp,rfl⟩
theorem xL{T:TypeId}{x:Operand}{r:AV}{st':List AO}(h:rgX P env st T x=some (r,st')):Does P env st ⟨dst, .range T x,ty,pos,after,guard⟩ r st':=λm φ a w hs he=>by
 have hnew:∀b,(Cz.blk w.heap.size).has b→w.heap.size≤b:=λb hb=>by simp only[Cz.has] at hb;omega
 unfold rgX at h
 split at h
 ·rename_i kt et id hT hx
  split at h
  ·rename_i es xs cl hst
   simp only[ak,Prod.mk.injEq] at h
   obtain⟨rfl,rfl⟩:=h
   have hra:=aI he hx
   obtain⟨b,h1,h2⟩:=gk he hx
   obtain⟨b',hbb,h0,l,g1,g2,g3⟩:=hs.obj id _ _ hst h1
   simp only[Cz.blk.injEq] at hbb
   subst hbb
   have hF:=Fz.alloc hs (.mapIter (some b) cl #[] cl)
   have hk:∀c,c<w.heap.size→(w.alloc (.mapIter (some b) cl #[] cl)).heap[c]? =w.heap[c]? :=λc hc=>ba hc
   rw[h2] at hra
   refine⟨.pointer (some ⟨w.heap.size,0,none⟩),w.alloc (.mapIter (some b) cl #[] cl),m++ [.blk w.heap.size],φ, .inl ?_,Ev.push hs hF hk sM rfl rfl rfl hnew,SR.push hs hF hk sM ⟨_,rfl,hs.lt _ (Nat.le_refl _),some b,heap_alloc_new w _,RA.mono (Pre.append m _) hF _ _ hra⟩ hnew,?_⟩
   ·simp[execOp,h2,Instr.range,run_underlying hT,MapKept.run_getObj_map g1]
   ·simp only[RA];exact⟨_,by rw[←hs.len];simp,rfl⟩
  ·cases h
 ·rename_i kt et hT hx
  simp only[ak,Prod.mk.injEq] at h
  obtain⟨rfl,rfl⟩:=h
  have h2:=aF he hx
  have hF:=Fz.alloc hs (.mapIter none 0 #[] 0)
  have hk:∀c,c<w.heap.size→(w.alloc (.mapIter none 0 #[] 0)).heap[c]? =w.heap[c]? :=λc hc=>ba hc
  refine⟨.pointer (some ⟨w.heap.size,0,none⟩),w.alloc (.mapIter none 0 #[] 0),m++ [.blk w.heap.size],φ, .inl ?_,Ev.push hs hF hk sM rfl rfl rfl hnew,SR.push hs hF hk sM ⟨_,rfl,hs.lt _ (Nat.le_refl _),none,heap_alloc_new w _,RAv⟩ hnew,?_⟩
  ·simp[execOp,h2,Instr.range,run_underlying hT]
  ·simp only[RA];exact⟨_,by rw[←hs.len];simp,rfl⟩
 ·cases h
theorem lQ{s:Nat}:∀{es:List (Value×Nat)}{l:List MapEntry}{j:Nat},l.map (λe=>(e.key,e.born))=es→rh es s=some j→∃e,l[j]? =some e∧l.find? (·.born==s)=some e
 |[],l,j,_,h=>by cases h
 |p::es,[],j,hl,h=>by simp at hl
 |p::es,e::l,j,hl,h=>by
  simp only[List.map_cons,List.cons.injEq] at hl
  obtain⟨rfl,hl⟩:=hl
  unfold rh at h
  cases hb:Nat.beq e.born s with
  |true=>
   rw[hb] at h
   obtain rfl:=inS h
   refine⟨e,rfl,?_⟩
   have:=nbE hb
   rw[List.find?_cons_of_pos (by simp[this])]
  |false=>
   rw[hb,cdF] at h
   split at h
   ·rename_i i hi
    obtain rfl:=inS h
    obtain⟨e',h1,h2⟩:=lQ hl hi
    refine⟨e',by simpa using h1,?_⟩
    rw[List.find?_cons_of_neg (by intro hh;rw[beq_iff_eq] at hh;rw[hh] at hb;simp at hb)]
    exact h2
   ·cases h
theorem yB{x:Operand}{r:AV}(h:enX env st x=some r):Yields P env st ⟨dst, .entry x,ty,pos,after,guard⟩ r:=λm φ a w hs he=>by
 unfold enX at h
 split at h
 ·rename_i iid hx
  split at h
  ·rename_i id since seen stp hit
   split at h
   ·rename_i s es xs cl hseen hmb
    cases hc:Nat.beq cl stp with
    |false=>rw[hc] at h;cases h
    |true=>
     rw[hc,cdT] at h
     have hc:=nbE hc
     subst hc
     split at h
     ·rename_i j hj
      split at h
      ·rename_i p r0 hp hr0
       obtain rfl:=inS h
       obtain⟨b,g1,g2⟩:=fG he hx
       obtain⟨b',hbb,h0,sb,g3,g4⟩:=hs.obj iid _ _ hit g1
       simp only[Cz.blk.injEq] at hbb
       subst hbb
       simp only[RA] at g4
       obtain⟨mb,g5,g6⟩:=g4
       simp only[Value.map.injEq] at g6
       subst g6
       obtain⟨b2,hb2,q0,l,q1,q2,q3⟩:=hs.obj id _ _ hmb g5
       simp only[Cz.blk.injEq] at hb2
       subst hb2
       obtain⟨e,k1,k2⟩:=lQ q2 hj
       have hpe:p=(e.key,e.born):=by
        have:(l.map (λe=>(e.key,e.born)))[j]? =some (e.key,e.born):=by rw[List.getElem?_map,k1];rfl
        rw[q2,hp] at this
        exact inS this
       subst hpe
       obtain⟨v,v1,v2⟩:=bV q3 hr0
       rw[List.getElem?_map,k1,Option.map_some,ak] at v1
       subst v1
       refine⟨.tuple #[e.key,e.val],by simp only[RA];exact⟨_,rfl,aS (jk _) (aS v2 bF)⟩,λw' hb=>?_⟩
       have e1:w'.heap[b]? =some (.mapIter (some mb) since ⟨seen⟩ cl):=by rw[hb.block b (bE g3)];exact g3
       have e2:w'.heap[mb]? =some (.map ⟨l⟩ cl):=by rw[hb.block mb (bE q1)];exact q1
       have f1:(getObj b).run P w'= .ok (.mapIter (some mb) since ⟨seen⟩ cl) w':=by simp[getObj,Sem.run,e1]
       have f2:(getObj mb).run P w'= .ok (.map ⟨l⟩ cl) w':=by simp[getObj,Sem.run,e2]
       have f3:(⟨seen⟩:Array Nat).back? =some s:=by rw[←hseen];simp[Array.back?,List.getLast?_eq_getElem?]
       have f4:(⟨l⟩:Array MapEntry).find? (·.born==s)=some e:=by rw[←Array.find?_toList];exact k2
       simp[execOp,g2,Instr.entry,f1,f2,f3,f4]
      ·cases h
     ·cases h
   ·cases h
  ·cases h
 ·cases h
end
def byV:List (List AV)→Option (List UInt8)
 |[]=>some []
 |[.d (.v (.int .u8 n))]::l=>bif decide (0≤n)&&decide (n<256) then(match byV l with
  |some bs=>some (UInt8.ofNat n.toNat::bs)
  |none=>none) else none
 |_=>none
theorem uG:∀{es:List (List AV)}{bs:List UInt8},byV es=some bs→es.flatten=(bs.map λb=>Value.int .u8 (b.toNat:Int)).map (λv=>AV.d (D.v v))∧bs.length=es.length
 |[],bs,h=>by obtain rfl:=inS h;exact⟨rfl,rfl⟩
 |e::l,bs,h=>by
  unfold byV at h
  split at h
  ·rename_i h0;cases h0
  ·rename_i n l' h0
   obtain⟨rfl,rfl⟩:=List.cons.inj h0
   cases hb:decide (0≤n)&&decide (n<256) with
   |false=>rw[hb] at h;cases h
   |true=>
    rw[hb,cdT] at h
    rw[Bool.and_eq_true] at hb
    have h1:=of_decide_eq_true hb.1
    have h2:=of_decide_eq_true hb.2
    split at h
    ·rename_i bs' hbs
     obtain rfl:=inS h
     obtain⟨k1,k2⟩:=uG hbs
     refine⟨?_,by simp[k2]⟩
     have:((UInt8.ofNat n.toNat).toNat:Int)=n:=by
      rw[UInt8.toNat_ofNat']
      omega
     simp only[List.flatten_cons,List.map_cons,this,k1]
     rfl
    ·cases h
  ·cases h
theorem xo{m φ w}:∀{vs ys:List Value},RAs m φ w (vs.map λv=>AV.d (D.v v)) ys→ys=vs
 |[],ys,h=>by simpa[RAs] using h
 |v::vs,ys,h=>by
  simp only[List.map_cons,RAs] at h
  obtain⟨c,cs,rfl,h1,h2⟩:=h
  simp only[RA,RD] at h1
  rw[h1,xo h2]
section
variable{P:Program}{env:Env}{st:List AO}{dst:Option Tmp}{ty:TypeId}{pos:String}{after:Array Edge}{guard:Option (Nat×Bool)}
theorem y_b2s{S T e:TypeId}{x:Operand}{id ver Te k:Nat}{es:List (List AV)}{bs:List UInt8}(hS:P.underlying S=some (.slice e))(he8:P.underlying e=some (.int .u8))(hT:P.underlying T=some .string)(hx:opv env x=some (.os id ver))(hi:st[id]? =some (.os Te k ver es))(hb:byV es=some bs):
  Yields P env st ⟨dst, .convert S T x,ty,pos,after,guard⟩ (.d (.v (.string ⟨bs.toArray⟩))):=λm φ a w hs he=>by
 obtain⟨y,xs,h1,h2,h3,h4,h5,h6⟩:=ii hs he hx hi
 obtain⟨k1,k2⟩:=uG hb
 rw[k1] at h4
 have hxs:=xo h4
 subst hxs
 refine⟨.string ⟨bs.toArray⟩,RAv,λw' hbl=>?_⟩
 rcases h3.2 with⟨rfl,hn⟩|⟨g,cap,cur,rfl,_,hg,_⟩
 ·have:bs=[]:=List.eq_nil_of_length_eq_zero (by rw[k2];exact hn)
  subst this
  have:=run_convert_bytes_string (P:=P) w' S T e none 0 0 hS he8 hT
  simp[execOp,h2,this,Conv.bytesToString]
  rfl
 ·rw[←k2] at h3 h2
  have hc:∀j (hj:j<bs.length),w'.cell? ((⟨g,0,none⟩:Addr).add j)=some (.int .u8 (bs[j].toNat:Int)):=λj hj=>by
   have:=cT h3 (j:=j) (u:= .int .u8 (bs[j].toNat:Int)) (by simp[geG hj])
   rw[cg]
   rw[aN (hbl.block g (bE hg))]
   simpa using this
  have:=run_convert_bytes_back (P:=P) w' S T e ⟨g,0,none⟩ cap bs hS he8 hT hc
  simp[execOp,h2,this]
theorem sF{T kt et:TypeId}{x:Operand}{id cl:Nat}{es:List (Value×Nat)}{xs:List AV}{c:Call}(hT:P.underlying T=some (.map kt et))(hc:c=⟨.builtin .len, #[x], #[T]⟩)(hx:opv env x=some (.mp id))(hi:st[id]? =some (.mb es xs cl)):
  Yields P env st ⟨dst, .call c,ty,pos,after,guard⟩ (.d (.v (.int .i64 es.length))):=λm φ a w hs he=>by
 obtain⟨b,h1,h2⟩:=gk he hx
 obtain⟨b',hbb,h0,l,g1,g2,g3⟩:=hs.obj id _ _ hi h1
 simp only[Cz.blk.injEq] at hbb
 subst hbb
 have hlen:es.length=l.length:=by rw[←g2,List.length_map]
 refine⟨_,RAv,λw' hb=>?_⟩
 subst hc
 have e1:w'.heap[b]? =some (.map ⟨l⟩ cl):=by rw[hb.block b (bE g1)];exact g1
 have f1:(getObj b).run P w'= .ok (.map ⟨l⟩ cl) w':=by simp[getObj,Sem.run,e1]
 simp[execOp,resolve,invoke,builtin,Builtin.len_,h2,run_underlying hT,f1,goInt,hlen]
end
theorem cz{α:Type}{c:Bool}{a:Option α}{r:α}(h:(bif c then a else none)=some r):c=true∧a=some r:=by
 cases c
 ·cases h
 ·exact⟨rfl,h⟩
theorem bifN{α:Type}{c:Bool}{a:Option α}{r:α}(h:(bif c then none else a)=some r):c=false∧a=some r:=by
 cases c
 ·exact⟨rfl,h⟩
 ·cases h
def dj{α:Type}{β:Type}:List α→(List α→β)→β
 |[],k=>k []
 |x::l,k=>dj l λl'=>k (x::l')
theorem dp{α:Type}{β:Type}:∀{l:List α}{k:List α→β},dj l k=k l
 |[],_=>rfl
 |x::l,k=>by unfold dj;rw[dp]
def jE:AV→Option (IntKind×Int)
 | .d (.v (.int k i))=>some (k,i)
 |_=>none
theorem db{x:AV}{k:IntKind}{i:Int}(h:jE x=some (k,i)):x= .d (.v (.int k i)):=by
 unfold jE at h
 split at h
 ·simp only[ak,Prod.mk.injEq] at h
  rw[h.1,h.2]
 ·cases h
def osA(st:List AO)(id ver:Nat):Option (Nat×Nat×List (List AV)):=match st[id]? with
 |some (.os T k v es)=>bif Nat.beq v ver then some (T,k,es) else none
 |_=>none
theorem dH{st:List AO}{id ver T k:Nat}{es:List (List AV)}(h:osA st id ver=some (T,k,es)):st[id]? =some (.os T k ver es):=by
 unfold osA at h
 split at h
 ·rename_i T' k' v es' hs
  cases hb:Nat.beq v ver with
  |false=>rw[hb] at h;cases h
  |true=>
   rw[hb] at h
   simp only[cdT,ak,Prod.mk.injEq] at h
   obtain⟨rfl,rfl,rfl⟩:=h
   rw[hs,nbE hb]
 ·cases h
def ixS(P:Program)(st:List AO)(T:Nat)(xr:AV)(i:Int):Option AV:=
 match aO P T with
 |some (n,_)=>bif decide (0≤i) then(match xr with
  | .d (.sl es)=>(match es[i.toNat]? with
   |some cs=>bif Nat.beq cs.length n then some (.d (.pc cs)) else none
   |none=>none)
  | .os id ver=>(match osA st id ver with
   |some (_,_,es)=>bif decide (i<es.length) then some (.pe id ver (i.toNat*n)) else none
   |none=>none)
  |_=>none) else none
 |none=>none
def tI(P:Program)(st:List AO)(T:Nat):AV→Option AV
 | .pe id ver off=>match osA st id ver with
  |some (_,_,es)=>(match aV P T,bc P T with
   |some false,_=>es.flatten[off]?
   |some true,some n=>bif decide (off+n≤es.flatten.length) then some (.ag ((es.flatten.drop off).take n)) else none
   |_,_=>none)
  |none=>none
 |_=>none
def faX(P:Program)(st:List AO)(S i:Nat):AV→Option AV
 | .pe id ver off=>match osA st id ver,bT P S i with
  |some _,some (fo,_+1,_)=>some (.pe id ver (off+fo))
  |_,_=>none
 |_=>none
def ncX(st:List AO):AV→Option AV
 | .pe id ver off=>match osA st id ver with
  |some _=>some (.pe id ver off)
  |none=>none
 |_=>none
def lenX(P:Program)(st:List AO)(T:Nat):AV→Option AV
 | .d (.sl es)=>match aO P T with
  |some _=>some (.d (.v (.int .i64 es.length)))
  |none=>none
 | .os id ver=>match aO P T,osA st id ver with
  |some _,some (_,_,es)=>some (.d (.v (.int .i64 es.length)))
  |_,_=>none
 | .d (.v (.string s))=>match P.underlying T with
  |some .string=>some (.d (.v (.int .i64 s.size)))
  |_=>none
 | .d (.v (.slice none 0 0))=>match aO P T with
  |some _=>some (.d (.v (.int .i64 0)))
  |none=>none
 | .mp id=>match P.underlying T,st[id]? with
  |some (.map _ _),some (.mb es _ _)=>some (.d (.v (.int .i64 es.length)))
  |_,_=>none
 |_=>none
def bitX(k:IntKind)(p q:Int):BinOp→Option AV
 | .and=>some (.d (.v (.int k (k.wrap (BitVec.ofInt k.bits p&&&BitVec.ofInt k.bits q).toNat))))
 | .or=>some (.d (.v (.int k (k.wrap (BitVec.ofInt k.bits p|||BitVec.ofInt k.bits q).toNat))))
 | .xor=>some (.d (.v (.int k (k.wrap (BitVec.ofInt k.bits p^^^BitVec.ofInt k.bits q).toNat))))
 | .quo=>bif decide (q=0) then none else some (.d (.v (.int k (k.wrap (p.tdiv q)))))
 | .rem=>bif decide (q=0) then none else some (.d (.v (.int k (p.tmod q))))
 |_=>none
def shX(k:IntKind)(p q:Int):BinOp→Option AV
 | .shr=>bif decide (0≤q) then some (.d (.v (.int k (p.fdiv (2^min q.toNat k.bits))))) else none
 | .shl=>bif decide (0≤q) then some (.d (.v (.int k (k.wrap (p*2^min q.toNat k.bits))))) else none
 |_=>none
def uI(env:Env)(o:Option Operand)(d:Nat):Option Nat:=match o with
 |none=>some d
 |some x=>match(opv env x).bind jE with
  |some (_,i)=>bif decide (0≤i) then some i.toNat else none
  |none=>none
theorem nD{env:Env}{o:Option Operand}{d n:Nat}(h:uI env o d=some n):Bnd env o d n:=by
 cases o with
 |none=>exact(inS h).symm
 |some x=>
  dsimp only[uI] at h
  split at h
  ·rename_i k i hx
   obtain⟨z,h1,h2⟩:=bC hx
   rw[db h2] at h1
   by_cases hi:0≤i
   ·rw[dcT hi] at h
    exact⟨k,i,h1,hi,inS h⟩
   ·rw[dcF hi] at h;cases h
  ·cases h
def tg(P:Program)(env:Env)(T:Nat)(lo hi:Option Operand):AV→Option AV
 | .d (.sl es)=>match aO P T,uI env lo 0,uI env hi es.length with
  |some (n,_),some l,some h=>bif decide (l≤h)&&(decide (h≤es.length)&&es.all λe=>Nat.beq e.length n) then some (.d (.sl ((es.drop l).take (h - l)))) else none
  |_,_,_=>none
 |_=>none
def rg(P:Program)(env:Env)(T:Nat)(parts:Array (Nat×Operand)):Option AV:=
 match dF P T,aL P T,bO env (parts.toList.map (·.2)) with
 |some (_,n,_),some zs,some xs=>(match is (λi=>some (i*n,n)) (zs.map λv=> .d (.v v)) (jo parts.toList xs) with
  |some cs=>some (.ag cs)
  |none=>none)
 |_,_,_=>none
def uH(P:Program)(env:Env)(st:List AO)(T:Nat)(parts:Array (Nat×Operand)):Option AV:=
 match bm P T,aL P T,bO env (parts.toList.map (·.2)) with
 |some pl,some zs,some xs=>(match gM st (λi=>pl[i]?) (zs.map λv=> .d (.v v)) (jo parts.toList xs) with
  |some cs=>some (.ag cs)
  |none=>none)
 |_,_,_=>rg P env T parts
def yd(P:Program)(st:List AO)(T:Nat):AV→Option AV
 | .d (.v (.slice none 0 0))=>match P.underlying T with
  |some (.slice _)=>some (.d (.v (.bool true)))
  |_=>none
 | .d (.sl (_::_))=>match P.underlying T with
  |some (.slice _)=>some (.d (.v (.bool false)))
  |_=>none
 | .os id ver=>match P.underlying T,osA st id ver with
  |some (.slice _),some (_,_,_::_)=>some (.d (.v (.bool false)))
  |_,_=>none
 |_=>none
def eqX(P:Program)(T:Nat):Option (List Value)→Option (List Value)→BinOp→Option AV
 |some xs,some ys, .eql=>(match il P T with
  |some ks=>bif bI ks xs&&bI ks ys then some (.d (.v (.bool (eqL xs ys)))) else none
  |none=>none)
 |some xs,some ys, .neq=>(match il P T with
  |some ks=>bif bI ks xs&&bI ks ys then some (.d (.v (.bool (!eqL xs ys)))) else none
  |none=>none)
 |_,_,_=>none
def yy(P:Program)(T:Nat):Option AV→Option AV→BinOp→Option AV
 |some (.d (.v (.bool p))),some (.d (.v (.bool q))), .eql=>(match P.underlying T with
  |some .bool=>some (.d (.v (.bool (p==q))))
  |_=>none)
 |some (.d (.v (.string p))),some (.d (.v (.string q))), .eql=>some (.d (.v (.bool (p.data.toList==q.data.toList))))
 |_,_,_=>none
def ixA(P:Program)(st:List AO)(T:Nat)(xr:AV)(i:Int):Option AV:=match dF P T with
 |some (len,n,_)=>bif decide (0≤i)&&decide (i<len) then(match xr with
  | .pt id off=>some (.pt id (off+i.toNat*n))
  | .d (.pc ps)=>some (.d (.pc (ps.drop (i.toNat*n))))
  | .pe id ver off=>(match osA st id ver with
   |some _=>some (.pe id ver (off+i.toNat*n))
   |none=>none)
  |_=>none) else none
 |none=>none
def ixV(P:Program)(T:Nat)(xr:AV)(i:Int):Option AV:=match dF P T with
 |some (len,n,false)=>bif decide (0≤i)&&decide (i<len) then(match xr with
  | .d (.ag ps)=>(match ps[i.toNat*n]? with
   |some p=>some (.d p)
   |none=>none)
  | .ag ps=>ps[i.toNat*n]?
  |_=>none) else none
 |some (len,n,true)=>bif decide (0≤i)&&decide (i<len) then(match xr with
  | .d (.ag ps)=>some (.d (.ag ((ps.drop (i.toNat*n)).take n)))
  | .ag ps=>some (.ag ((ps.drop (i.toNat*n)).take n))
  |_=>none) else none
 |none=>none
def b2X(P:Program)(env:Env)(st:List AO)(S T:TypeId)(x:Operand):Option AV:=match opv env x,P.underlying S,P.underlying T with
 |some (.os id ver),some (.slice e),some .string=>(match osA st id ver,P.underlying e with
  |some (_,_,es),some (.int .u8)=>(match byV es with
   |some bs=>some (.d (.v (.string ⟨bs.toArray⟩)))
   |none=>none)
  |_,_=>none)
 |_,_,_=>none
def exY(P:Program)(t:Ty)(env:Env)(st:List AO)(op:Op):Option AV:=
 match iJ t env st op with
 |some r=>some r
 |none=>match op with
  | .indexAddr T x ix=>(match opv env x,(opv env ix).bind jE with
   |some xr,some (_,i)=>(match ixS P st T xr i with
    |some r=>some r
    |none=>ixA P st T xr i)
   |_,_=>none)
  | .load T x=>(opv env x).bind (tI P st T)
  | .fieldAddr S x i=>(opv env x).bind (faX P st S i)
  | .nilCheck x=>(opv env x).bind (ncX st)
  | .call c=>(match c.callee,c.args.toList,c.argTypes.toList with
   | .builtin .len,[x],[T]=>(opv env x).bind (lenX P st T)
   | .builtin .max,[x,y],[_,_]=>(match(opv env x).bind jE,(opv env y).bind jE with
    |some (k,p),some (k',q)=>bif decide (k=k') then some (.d (.v (.int k (if q>p then q else p)))) else none
    |_,_=>none)
   | .builtin .min,[x,y],[_,_]=>(match(opv env x).bind jE,(opv env y).bind jE with
    |some (k,p),some (k',q)=>bif decide (k=k') then some (.d (.v (.int k (if q<p then q else p)))) else none
    |_,_=>none)
   |_,_,_=>none)
  | .binOp .eql T x (.const (.slice none 0 0)) _=>(opv env x).bind (yd P st T)
  | .binOp b T x y _=>(match(opv env x).bind jE,(opv env y).bind jE with
   |some (k,p),some (k',q)=>(match shX k p q b with
    |some r=>some r
    |none=>bif decide (k=k') then bitX k p q b else none)
   |_,_=>(match eqX P T ((opv env x).bind agV) ((opv env y).bind agV) b with
    |some r=>some r
    |none=>yy P T (opv env x) (opv env y) b))
  | .slice T x lo hi none=>(opv env x).bind (tg P env T lo hi)
  | .convert S T x=>b2X P env st S T x
  | .lookup T x ki c=>lkX P env st T x ki c
  | .entry x=>enX env st x
  | .build T parts=>uH P env st T parts
  | .index T x ix=>(match opv env x,(opv env ix).bind jE,P.underlying T with
   |some (.d (.v (.string s))),some (_,i),some .string=>(match eK s i with
    |some r=>some (.d (.v (.int .u8 r)))
    |none=>none)
   |some xr,some (_,i),_=>ixV P T xr i
   |_,_,_=>none)
  |_=>none
section
variable{P:Program}{t:Ty}{env:Env}{st:List AO}{dst:Option Tmp}{ty:TypeId}{pos:String}{after:Array Edge}{guard:Option (Nat×Bool)}
theorem nU{x:Operand}{id ver off Te k:Nat}{es:List (List AV)}(hx:opv env x=some (.pe id ver off))(hi:st[id]? =some (.os Te k ver es)):Yields P env st ⟨dst, .nilCheck x,ty,pos,after,guard⟩ (.pe id ver off):=λm φ a w hs he=>by
 obtain⟨p,h2⟩:=tr hs he hx hi
 refine⟨_,aI he hx,λw' _=>?_⟩
 simp[execOp,h2]
theorem yb{T:Nat}{x ix:Operand}{xr r:AV}{k:IntKind}{i:Int}(hx:opv env x=some xr)(hi:opv env ix=some (.d (.v (.int k i))))(h:ixS P st T xr i=some r):Yields P env st ⟨dst, .indexAddr T x ix,ty,pos,after,guard⟩ r:=by
 unfold ixS at h
 split at h
 ·rename_i n bb hT
  by_cases h0:0≤i
  ·rw[dcT h0,cdT] at h
   split at h
   ·rename_i es
    split at h
    ·rename_i cs hc
     cases hb:Nat.beq cs.length n with
     |false=>rw[hb] at h;cases h
     |true=>
      rw[hb] at h
      obtain rfl:=inS h
      exact ai hT hx (Le.refl _) hi h0 hc (nbE hb)
    ·cases h
   ·rename_i id ver
    split at h
    ·rename_i T' k' es ho
     by_cases h1:i<es.length
     ·rw[dcT h1] at h
      obtain rfl:=inS h
      exact bh hT hx (dH ho) hi h0 h1
     ·rw[dcF h1] at h;cases h
    ·cases h
   ·cases h
  ·rw[dcF h0] at h;cases h
 ·cases h
theorem tH{T:Nat}{x:Operand}{xr r:AV}(hx:opv env x=some xr)(h:tI P st T xr=some r):Yields P env st ⟨dst, .load T x,ty,pos,after,guard⟩ r:=by
 unfold tI at h
 split at h
 ·split at h
  ·rename_i ho
   split at h
   ·rename_i ha;exact bY hx (dH ho) ha h
   ·rename_i n ha hn
    obtain⟨hl,h⟩:=cz h
    obtain rfl:=inS h
    exact kI hx (dH ho) ha hn (of_decide_eq_true hl)
   ·cases h
  ·cases h
 ·cases h
theorem mR{T T' E:Nat}{x:Operand}{b:Bool}(hT:P.underlying T=some (.slice E))(h:∀(m:List Cz)(φ:Nat→Nat)(a:Act)(w:World),SR m φ st w→EnvOk m φ w env a→∃ad ll cc,a.eval x= .slice ad ll cc∧ad.isNone=b):
  Yields P env st ⟨dst, .binOp .eql T x (.const (.slice none 0 0)) T',ty,pos,after,guard⟩ (.d (.v (.bool b))):=λm φ a w hs he=>by
 obtain⟨ad,ll,cc,h2,h3⟩:=h m φ a w hs he
 refine⟨.bool b,RAv,λw' _=>?_⟩
 have hc:a.eval (.const (.slice none 0 0))= .slice none 0 0:=rfl
 subst h3
 simp[execOp,h2,hc,eqGuard,binOp,run_equal_slice_nil w' T E ad ll cc hT]
theorem wa{T T':Nat}{x:Operand}{xr r:AV}(hx:opv env x=some xr)(h:yd P st T xr=some r):Yields P env st ⟨dst, .binOp .eql T x (.const (.slice none 0 0)) T',ty,pos,after,guard⟩ r:=by
 unfold yd at h
 split at h
 ·split at h
  ·rename_i hT
   obtain rfl:=inS h
   refine mR hT λm φ a w hs he=>?_
   have h1:=aI he hx
   simp only[RA,RD] at h1
   exact⟨none,0,0,h1,rfl⟩
  ·cases h
 ·rename_i c es
  split at h
  ·rename_i hT
   obtain rfl:=inS h
   refine mR hT λm φ a w hs he=>?_
   have h1:=aI he hx
   simp only[RA] at h1
   obtain⟨ad,ll,cc,h2,h3⟩:=uS h1
   refine⟨ad,ll,cc,h2,?_⟩
   cases hn:ad.isNone with
   |false=>rfl
   |true=>cases h3 hn
  ·cases h
 ·split at h
  ·rename_i hT ho
   obtain rfl:=inS h
   refine mR hT λm φ a w hs he=>?_
   obtain⟨y,xs,h1,h2,h3,_⟩:=ii hs he hx (dH ho)
   rcases h3.2 with⟨rfl,hn⟩|⟨g,cap,cur,rfl,_⟩
   ·simp at hn
   ·exact⟨_,_,_,h2,rfl⟩
  ·cases h
 ·cases h
theorem yz{T T':Nat}{b:BinOp}{x y:Operand}{r:AV}(h:eqX P T ((opv env x).bind agV) ((opv env y).bind agV) b=some r):Yields P env st ⟨dst, .binOp b T x y T',ty,pos,after,guard⟩ r:=by
 unfold eqX at h
 split at h
 ·rename_i xs ys h1 h2
  obtain⟨z,g1,g2⟩:=bC h1
  obtain⟨z',k1,k2⟩:=bC h2
  split at h
  ·rename_i ks hk
   obtain⟨hc,h⟩:=cz h
   obtain rfl:=inS h
   rw[Bool.and_eq_true] at hc
   exact mU hk g1 (lX g2) k1 (lX k2) hc.1 hc.2 rfl
  ·cases h
 ·rename_i xs ys h1 h2
  obtain⟨z,g1,g2⟩:=bC h1
  obtain⟨z',k1,k2⟩:=bC h2
  split at h
  ·rename_i ks hk
   obtain⟨hc,h⟩:=cz h
   obtain rfl:=inS h
   rw[Bool.and_eq_true] at hc
   exact xw hk g1 (lX g2) k1 (lX k2) hc.1 hc.2 rfl
  ·cases h
 ·cases h
theorem wx{T T':Nat}{b:BinOp}{x y:Operand}{r:AV}(h:yy P T (opv env x) (opv env y) b=some r):Yields P env st ⟨dst, .binOp b T x y T',ty,pos,after,guard⟩ r:=by
 unfold yy at h
 split at h
 ·rename_i h1 h2
  split at h
  ·rename_i hT
   obtain rfl:=inS h
   exact y_eqb hT h1 h2
  ·cases h
 ·rename_i h1 h2
  rw[←ByteArray.toList_eq,←ByteArray.toList_eq] at h
  obtain rfl:=inS h
  exact w3 h1 h2
 ·cases h
theorem kj{T len n:Nat}{bb:Bool}{x ix:Operand}{id ver off Te k:Nat}{es:List (List AV)}{kk:IntKind}{i:Int}(hT:dF P T=some (len,n,bb))(hx:opv env x=some (.pe id ver off))(hs0:st[id]? =some (.os Te k ver es))(hi:opv env ix=some (.d (.v (.int kk i))))
  (h0:0≤i)(h1:i<len):Yields P env st ⟨dst, .indexAddr T x ix,ty,pos,after,guard⟩ (.pe id ver (off+i.toNat*n)):=λm φ a w hs he=>by
 have hra:=aI he hx
 simp only[RA] at hra
 obtain⟨ver0,y0,g1,g2,g3⟩:=hra
 obtain⟨y,xs,e1,_⟩:=hs.obj id _ _ hs0 g1
 simp only[Cz.tok.injEq] at e1
 obtain⟨rfl,rfl⟩:=e1
 obtain⟨b,len',cap,rfl,hv⟩:=g3 rfl
 exact⟨.pointer (some ⟨b,off+i.toNat*n,none⟩),by simp only[RA];exact⟨_,_,g1,Nat.le_refl _,λ_=>⟨b,_,_,rfl,rfl⟩⟩,λw' _=>by simp[execOp,hv,aF he hi,dZ hT h0 h1]⟩
theorem yc{T:Nat}{x ix:Operand}{xr r:AV}{k:IntKind}{i:Int}(hx:opv env x=some xr)(hi:opv env ix=some (.d (.v (.int k i))))(h:ixA P st T xr i=some r):Yields P env st ⟨dst, .indexAddr T x ix,ty,pos,after,guard⟩ r:=by
 unfold ixA at h
 split at h
 ·rename_i len n bb hT
  obtain⟨hc,h⟩:=cz h
  rw[Bool.and_eq_true] at hc
  have h0:=of_decide_eq_true hc.1
  have h1:=of_decide_eq_true hc.2
  split at h
  ·obtain rfl:=inS h;exact mS hT hx hi h0 h1
  ·obtain rfl:=inS h;exact eX hT hx hi h0 h1
  ·split at h
   ·rename_i ho;obtain rfl:=inS h;exact kj hT hx (dH ho) hi h0 h1
   ·cases h
  ·cases h
 ·cases h
theorem rE{T len n:Nat}{x ix:Operand}{ps:List AV}{kk:IntKind}{i:Int}(hT:dF P T=some (len,n,true))(hx:opv env x=some (.ag ps))(hi:opv env ix=some (.d (.v (.int kk i))))
  (h0:0≤i)(h1:i<len):Yields P env st ⟨dst, .index T x ix,ty,pos,after,guard⟩ (.ag ((ps.drop (i.toNat*n)).take n)):=λm φ a w _ he=>by
 have hra:=aI he hx
 simp only[RA] at hra
 obtain⟨cs,h2,h3⟩:=hra
 obtain⟨t,g1,g2,g3⟩:=dJ hT
 exact⟨_,by simp only[RA];exact⟨_,rfl,bK n (bP _ h3)⟩,λw' _=>by simp[execOp,Instr.index,h2,aF he hi,asIntOf,run_underlying g1,h0,h1,aA g2,gG g3 g2]⟩
theorem xZ{T:Nat}{x ix:Operand}{xr r:AV}{k:IntKind}{i:Int}(hx:opv env x=some xr)(hi:opv env ix=some (.d (.v (.int k i))))(h:ixV P T xr i=some r):Yields P env st ⟨dst, .index T x ix,ty,pos,after,guard⟩ r:=by
 unfold ixV at h
 split at h
 ·rename_i len n hT
  obtain⟨hc,h⟩:=cz h
  rw[Bool.and_eq_true] at hc
  have h0:=of_decide_eq_true hc.1
  have h1:=of_decide_eq_true hc.2
  split at h
  ·split at h
   ·rename_i hp;obtain rfl:=inS h;exact u5 hT hx hi h0 h1 hp
   ·cases h
  ·exact sG hT hx hi h0 h1 h
  ·cases h
 ·rename_i len n hT
  obtain⟨hc,h⟩:=cz h
  rw[Bool.and_eq_true] at hc
  have h0:=of_decide_eq_true hc.1
  have h1:=of_decide_eq_true hc.2
  split at h
  ·obtain rfl:=inS h;exact sH hT hx hi h0 h1
  ·obtain rfl:=inS h;exact rE hT hx hi h0 h1
  ·cases h
 ·cases h
theorem uk(ht:t.ok P=true){op:Op}{r:AV}(h:exY P t env st op=some r):Yields P env st ⟨dst,op,ty,pos,after,guard⟩ r:=by
 unfold exY at h
 split at h
 ·rename_i r' hr
  obtain rfl:=inS h
  exact kV ht hr
 ·split at h
  ·rename_i T x ix
   split at h
   ·rename_i xr k i hx hi
    obtain⟨z,h1,h2⟩:=bC hi
    rw[db h2] at h1
    split at h
    ·rename_i r1 hr1
     obtain rfl:=inS h
     exact yb hx h1 hr1
    ·exact yc hx h1 h
   ·cases h
  ·obtain⟨z,h1,h2⟩:=bC h
   exact tH h1 h2
  ·obtain⟨z,h1,h2⟩:=bC h
   unfold faX at h2
   split at h2
   ·split at h2
    ·rename_i ho hf
     obtain rfl:=inS h2
     exact aU hf h1 (dH ho)
    ·cases h2
   ·cases h2
  ·obtain⟨z,h1,h2⟩:=bC h
   unfold ncX at h2
   split at h2
   ·split at h2
    ·rename_i ho
     obtain rfl:=inS h2
     exact nU h1 (dH ho)
    ·cases h2
   ·cases h2
  ·rename_i c _
   split at h
   ·rename_i x T hc ha hg
    have hcc:c=⟨.builtin .len, #[x], #[T]⟩:=by
     obtain⟨c1,c2,c3⟩:=c
     simp only at hc ha hg
     subst hc
     have e2:c2= #[x]:=by rw[←ha]
     have e3:c3= #[T]:=by rw[←hg]
     rw[e2,e3]
    obtain⟨z,h1,h2⟩:=bC h
    unfold lenX at h2
    split at h2
    ·split at h2
     ·rename_i hT;obtain rfl:=inS h2;exact kJ hT hcc h1 (Le.refl _)
     ·cases h2
    ·split at h2
     ·rename_i hT ho;obtain rfl:=inS h2;exact kL hT hcc h1 (dH ho)
     ·cases h2
    ·split at h2
     ·rename_i hT;obtain rfl:=inS h2;exact eo hT hcc h1
     ·cases h2
    ·split at h2
     ·rename_i hT;obtain rfl:=inS h2;exact kJ (es:=[]) hT hcc h1 Le.nil
     ·cases h2
    ·split at h2
     ·rename_i hT ho;obtain rfl:=inS h2;exact sF hT hcc h1 ho
     ·cases h2
    ·cases h2
   ·rename_i x y T1 T2 hc ha hg
    have hcc:c=⟨.builtin .max, #[x,y], #[T1,T2]⟩:=by
     obtain⟨c1,c2,c3⟩:=c
     simp only at hc ha hg
     subst hc
     have e2:c2= #[x,y]:=by rw[←ha]
     have e3:c3= #[T1,T2]:=by rw[←hg]
     rw[e2,e3]
    split at h
    ·rename_i hx hy
     have hk:=of_decide_eq_true (cz h).1
     have h3:=(cz h).2
     clear h
     subst hk
     obtain rfl:=inS h3
     obtain⟨z,h1,h2⟩:=bC hx
     rw[db h2] at h1
     obtain⟨z',g1,g2⟩:=bC hy
     rw[db g2] at g1
     exact qh hcc h1 g1
    ·cases h
   ·rename_i x y T1 T2 hc ha hg
    have hcc:c=⟨.builtin .min, #[x,y], #[T1,T2]⟩:=by
     obtain⟨c1,c2,c3⟩:=c
     simp only at hc ha hg
     subst hc
     have e2:c2= #[x,y]:=by rw[←ha]
     have e3:c3= #[T1,T2]:=by rw[←hg]
     rw[e2,e3]
    split at h
    ·rename_i hx hy
     have hk:=of_decide_eq_true (cz h).1
     have h3:=(cz h).2
     clear h
     subst hk
     obtain rfl:=inS h3
     obtain⟨z,h1,h2⟩:=bC hx
     rw[db h2] at h1
     obtain⟨z',g1,g2⟩:=bC hy
     rw[db g2] at g1
     exact qg hcc h1 g1
    ·cases h
   ·cases h
  ·obtain⟨z,h1,h2⟩:=bC h
   exact wa h1 h2
  ·rename_i b T x y T' _ _
   split at h
   ·rename_i k p k' q hx hy
    obtain⟨z,h1,h2⟩:=bC hx
    rw[db h2] at h1
    obtain⟨z',g1,g2⟩:=bC hy
    rw[db g2] at g1
    split at h
    ·rename_i r' hr
     obtain rfl:=inS h
     cases b<;>simp only[shX] at hr<;>first|cases hr|skip
     ·obtain⟨h0,hr⟩:=cz hr;obtain rfl:=inS hr;exact y_shl h1 g1 (of_decide_eq_true h0) rfl
     ·obtain⟨h0,hr⟩:=cz hr;obtain rfl:=inS hr;exact qf h1 g1 (of_decide_eq_true h0)
    ·obtain⟨hk,h⟩:=cz h
     obtain rfl:=of_decide_eq_true hk
     cases b<;>simp only[bitX] at h<;>first|cases h|skip
     ·obtain⟨h0,h⟩:=bifN h;obtain rfl:=inS h;exact sB h1 g1 (of_decide_eq_false h0) rfl
     ·obtain⟨h0,h⟩:=bifN h;obtain rfl:=inS h;exact wZ h1 g1 (of_decide_eq_false h0)
     ·exact qi h1 g1 rfl
     ·exact xv h1 g1 rfl
     ·exact y_xor h1 g1 rfl
   ·split at h
    ·rename_i hq
     obtain rfl:=inS h
     exact yz hq
    ·exact wx h
  ·obtain⟨z,h1,h2⟩:=bC h
   unfold tg at h2
   split at h2
   ·split at h2
    ·rename_i hT hl hhi
     obtain⟨hc,h2⟩:=cz h2
     obtain rfl:=inS h2
     simp only[Bool.and_eq_true] at hc
     exact qe hT h1 (Le.refl _) (nD hl) (nD hhi) (of_decide_eq_true hc.1) (of_decide_eq_true hc.2.1) (λe he=>nbE (List.all_eq_true.1 hc.2.2 e he))
    ·cases h2
   ·cases h2
  ·unfold b2X at h
   split at h
   ·rename_i hx hS hT
    split at h
    ·rename_i ho he
     split at h
     ·rename_i bs hb
      obtain rfl:=inS h
      exact y_b2s hS he hT hx (dH ho) hb
     ·cases h
    ·cases h
   ·cases h
  ·exact xW h
  ·exact yB h
  ·unfold uH at h
   split at h
   ·rename_i pl zs xs hp hz hx
    split at h
    ·rename_i cs hf
     obtain rfl:=inS h
     exact sK hp hz hx hf
    ·cases h
   ·unfold rg at h
    split at h
    ·rename_i hp hz hx
     split at h
     ·rename_i cs hf
      obtain rfl:=inS h
      exact sL hp hz hx hf
     ·cases h
    ·cases h
  ·split at h
   ·rename_i hx hi hT
    obtain⟨z,h1,h2⟩:=bC hi
    rw[db h2] at h1
    split at h
    ·rename_i hr
     obtain rfl:=inS h
     exact cx hT hx h1 hr
    ·cases h
   ·rename_i hx hi _
    obtain⟨z,h1,h2⟩:=bC hi
    rw[db h2] at h1
    exact xZ hx h1 h
   ·cases h
  ·cases h
end
theorem Does.nil_os{P:Program}{env:Env}{st st':List AO}{o:Oper}{r:AV}(t T k:Nat)(ht:env.get t=some (.d (.v (.slice none 0 0))))(h:Does P ((t, .os st.length 0)::env) (st++ [.os T k 0 []]) o r st'):Does P env st o r st':=λm φ a w hs he=>by
 obtain⟨h1,h2⟩:=ku (T:=T) (k:=k) hs
 have h3:EnvOk (m++ [.tok 0 (.slice none 0 0)]) φ w env a:=he.mono (Pre.append _ _) (Fz.refl φ w)
 have h4:EnvOk (m++ [.tok 0 (.slice none 0 0)]) φ w ((t, .os st.length 0)::env) a:=⟨λs x hx=>by
  unfold Env.get at hx
  cases hb:Nat.beq s t with
  |true=>
   rw[hb] at hx
   simp only[cdT,ak] at hx
   subst hx
   have:s=t:=nbE hb
   subst this
   obtain⟨v,g1,g2⟩:=he s _ ht
   simp only[RA,RD] at g2
   subst g2
   refine⟨_,g1,?_⟩
   simp only[RA]
   exact⟨0,_,by rw[←hs.len];simp,Nat.le_refl _,λ_=>rfl⟩
  |false=>rw[hb] at hx;exact h3 s x hx,h3.gl⟩
 obtain⟨v,w',m',φ',k1,k2,k3,k4⟩:=h _ φ a w h2 h4
 exact⟨v,w',m',φ',k1,h1.trans k2,k3,k4⟩
def iw(k:Nat):Nat→List AV→List (List AV)
 |0,_=> []
 |n+1,xs=>xs.take k::iw k n (xs.drop k)
theorem mK(k:Nat):∀(n:Nat)(xs:List AV),xs.length=n*k→(iw k n xs).flatten=xs∧(iw k n xs).length=n∧∀e∈iw k n xs,e.length=k
 |0,xs,h=>by
  have:xs=[]:=List.eq_nil_of_length_eq_zero (by simpa using h)
  subst this
  exact⟨rfl,rfl,λe he=>by cases he⟩
 |n+1,xs,h=>by
  have hk:k≤xs.length:=by rw[h,Nat.succ_mul];omega
  obtain⟨h1,h2,h3⟩:=mK k n (xs.drop k) (by rw[List.length_drop,h,Nat.succ_mul];omega)
  refine⟨?_,?_,λe he=>?_⟩
  ·show xs.take k++(iw k n (xs.drop k)).flatten=xs
   rw[h1,List.take_append_drop]
  ·show(iw k n (xs.drop k)).length+1=n+1
   rw[h2]
  ·rcases List.mem_cons.1 he with rfl|he
   ·rw[List.length_take];omega
   ·exact h3 e he
theorem mH{k:Nat}:∀{es:List (List AV)},(∀e∈es,e.length=k)→es.flatten.length=es.length*k
 |[],_=>sM
 |e::es,h=>by
  rw[List.flatten_cons,List.length_append,mH (λe' he=>h e' (List.mem_cons_of_mem _ he)),h e List.mem_cons_self,List.length_cons,Nat.succ_mul]
  omega
def xH(st:List AO)(k:Nat):AV→Option (List (List AV))
 | .d (.sl ds)=>bif ds.all (λe=>Nat.beq e.length k) then some (ds.map λe=>e.map AV.d) else none
 | .os id ver=>match osA st id ver with
  |some (_,k',fs)=>bif Nat.beq k' k then some fs else none
  |none=>none
 | .d (.v (.slice none 0 0))=>some []
 |_=>none
theorem vf{st:List AO}{k:Nat}{x:AV}{fs:List (List AV)}(h:xH st k x=some fs):Src st x k fs:=by
 unfold xH at h
 split at h
 ·obtain⟨hc,h⟩:=cz h
  obtain rfl:=inS h
  exact Src.data (Le.refl _) (λe he=>nbE (List.all_eq_true.1 hc e he))
 ·split at h
  ·rename_i ho
   obtain⟨hc,h⟩:=cz h
   obtain rfl:=inS h
   have e:=nbE hc
   subst e
   exact Src.own (dH ho)
  ·cases h
 ·obtain rfl:=inS h
  exact Src.data (ds:=[]) Le.nil (λe he=>by cases he)
 ·cases h
def wM(P:Program)(env:Env)(st:List AO)(s x:Operand)(T:Nat):Option (AV×List AO):=
 match opv env s,opv env x,bU P T with
 |some (.os id ver),some xr,some (e,k,by_)=>(match osA st id ver,xH st k xr,aL P e with
  |some (e',k',es),some fs,some zs=>bif Nat.beq e' e&&(Nat.beq k' k&&(Nat.beq zs.length k&&(Nat.blt 0 k&&(fs.flatten.all (AV.ok1S st)&&(fs.all (λf=>Nat.beq f.length k)&&(decide (es.length+fs.length≤maxLen)&&decide ((es.length+fs.length)*by_≤140737488355328)))))))
   then dj (es++fs) (λes'=>some (.os id (ver+1),st.set id (.os e k (ver+1) es'))) else none
  |_,_,_=>none)
 |_,_,_=>none
def pG(P:Program)(env:Env)(st:List AO)(T:Nat)(x y:Operand):Option (AV×List AO):=
 match opv env x,opv env y,bc P T with
 |some (.pt id off),some r,some n=>(match st[id]? with
  |some (.row T' cs)=>bif r.okS st&&(r.cells.all (AV.ok1S st)&&(Nat.beq r.cells.length n&&Nat.ble (off+n) cs.length)) then dj (cs.take off++r.cells++cs.drop (off+n)) (λcs'=>some (.d (.v undef),st.set id (.row T' cs'))) else none
  |_=>none)
 |some (.pe id ver off),some r,some n=>(match osA st id ver with
  |some (T',k,es)=>bif r.okS st&&(r.cells.all (AV.ok1S st)&&(Nat.beq r.cells.length n&&(decide (off+n≤es.flatten.length)&&es.all λe=>Nat.beq e.length k)))
   then dj (es.flatten.take off++r.cells++es.flatten.drop (off+n)) (λfl=>dj (iw k es.length fl) λes'=>some (.d (.v undef),st.set id (.os T' k ver es'))) else none
  |none=>none)
 |_,_,_=>none
def mkX(P:Program)(env:Env)(st:List AO)(T:Nat)(x y:Operand):Option (AV×List AO):=
 match(opv env x).bind jE,(opv env y).bind jE,bU P T with
 |some (_,n),some (_,n'),some (e,k,by_)=>(match aL P e with
  |some zs=>bif decide (n=n')&&(Nat.beq zs.length k&&(Nat.blt 0 k&&vT by_ n)) then some (.os st.length 0,st++ [.os e k 0 (List.replicate n.toNat (zs.map λz=> .d (.v z)))]) else none
  |none=>none)
 |_,_,_=>none
def yJ(P:Program)(env:Env)(st:List AO)(T len:Nat)(parts:Array (Nat×Operand)):Option (AV×List AO):=
 bif Nat.beq len 0&&parts.isEmpty then(match bU P T with
  |some (e,k,_)=>some (.os st.length 0,st++ [.os e k 0 []])
  |none=>none) else
 match bU P T,bO env (parts.toList.map (·.2)) with
 |some (e,k,_),some xs=>(match aL P e with
  |some zs=>bif Nat.beq zs.length k&&(decide (len*k≤16777216)&&(Nat.blt 0 (len*k)&&(decide (parts.toList.map (·.1)=List.range len)&&((xs.all λx=>x.okS st&&Nat.beq x.cells.length k)&&decide (len≤maxLen)))))
   then some (.os st.length 0,st++ [.os e k 0 (xs.map AV.cells)]) else none
  |none=>none)
 |_,_=>none
def appN(P:Program)(env:Env)(st:List AO)(s x:Operand)(T:Nat):Option (AV×List AO):=
 match s with
 | .tmp t=>(match env.get t,bU P T with
  |some (.d (.v (.slice none 0 0))),some (e,k,_)=>wM P ((t, .os st.length 0)::env) (st++ [.os e k 0 []]) s x T
  |_,_=>none)
 |_=>none
def xQ(P:Program)(env:Env)(st:List AO)(T:Nat)(x:Operand)(hi:Operand):Option (AV×List AO):=
 match opv env x,aO P T,uI env (some hi) 0 with
 |some (.os id ver),some (k,_),some h=>(match osA st id ver with
  |some (e,k',es)=>bif Nat.beq k k'&&Nat.ble h es.length then some (.os id (ver+1),st.set id (.os e k (ver+1) (es.take h))) else none
  |none=>none)
 |_,_,_=>none
def yu(P:Program)(env:Env)(st:List AO):Op→Option (AV×List AO)
 | .box T x=>match opv env x with
  |some r=>bif r.okS st then some (.pt st.length 0,st++ [.row T r.cells]) else none
  |none=>none
 | .alloc T=>match aL P T with
  |some vs=>some (.pt st.length 0,st++ [.row T (vs.map λv=> .d (.v v))])
  |none=>none
 | .store T x y=>pG P env st T x y
 | .makeSlice T x y=>mkX P env st T x y
 | .buildSlice T len parts=>yJ P env st T len parts
 | .makeMap _ none=>some (.mp st.length,st++ [.mb [] [] 0])
 | .insert T x ki v=>muX P env st T x ki v
 | .mapUpdate T x ki v=>muX P env st T x ki v
 | .range T x=>rgX P env st T x
 | .slice T x none (some hi) none=>xQ P env st T x hi
 | .call c=>(match c.callee,c.args.toList,c.argTypes.toList with
  | .builtin .append,[s,x],[T,T']=>bif Nat.beq T T' then(match wM P env st s x T with
   |some r=>some r
   |none=>appN P env st s x T) else none
  |_,_,_=>none)
 |_=>none
def exD(P:Program)(env:Env)(st:List AO)(op:Op):Option (AV×List AO):=match yu P env st op with
 |some (r,s)=>dj s λs'=>some (r,s')
 |none=>none
section
variable{P:Program}{env:Env}{st st':List AO}{dst:Option Tmp}{ty:TypeId}{pos:String}{after:Array Edge}{guard:Option (Nat×Bool)}
theorem rM{T:Nat}{x y:Operand}{r:AV}(h:pG P env st T x y=some (r,st')):Does P env st ⟨dst, .store T x y,ty,pos,after,guard⟩ r st':=by
 unfold pG at h
 split at h
 ·rename_i hx hy hn
  split at h
  ·rename_i hs
   obtain⟨hc,h⟩:=cz h
   rw[dp] at h
   simp only[ak,Prod.mk.injEq] at h
   obtain⟨rfl,rfl⟩:=h
   simp only[Bool.and_eq_true] at hc
   exact uA hx hs hy hc.1 rfl hc.2.1 hn (nbE hc.2.2.1) hc.2.2.2
  ·cases h
 ·rename_i id ver off r0 n hx hy hn
  split at h
  ·rename_i T' k es ho
   obtain⟨hc,h⟩:=cz h
   rw[dp,dp] at h
   simp only[ak,Prod.mk.injEq] at h
   obtain⟨rfl,rfl⟩:=h
   simp only[Bool.and_eq_true,decide_eq_true_eq] at hc
   obtain⟨c1,c2,c3,c4,c5⟩:=hc
   have c3:=nbE c3
   have hk:∀e∈es,e.length=k:=λe he=>nbE (List.all_eq_true.1 c5 e he)
   have hf:=mH hk
   obtain⟨q1,q2,q3⟩:=mK k es.length (es.flatten.take off++r0.cells++es.flatten.drop (off+n)) (by
    rw[List.length_append,List.length_append,List.length_take,List.length_drop,c3,←hf];omega)
   exact oU hx (dH ho) hy c1 rfl c2 hn c3 c4 q1 q2 q3
  ·cases h
 ·cases h
theorem xT{T:Nat}{x y:Operand}{r:AV}(h:mkX P env st T x y=some (r,st')):Does P env st ⟨dst, .makeSlice T x y,ty,pos,after,guard⟩ r st':=by
 unfold mkX at h
 split at h
 ·rename_i hx hy hT
  split at h
  ·rename_i hz
   obtain⟨hc,h⟩:=cz h
   simp only[ak,Prod.mk.injEq] at h
   obtain⟨rfl,rfl⟩:=h
   simp only[Bool.and_eq_true,decide_eq_true_eq] at hc
   obtain⟨rfl,c1,c2,c3⟩:=hc
   obtain⟨z,h1,h2⟩:=bC hx
   rw[db h2] at h1
   obtain⟨z',g1,g2⟩:=bC hy
   rw[db g2] at g1
   exact(j8 hT hz (nbE c1) (nbT c2) h1 g1 c3).b.does
  ·cases h
 ·cases h
theorem wK{T len:Nat}{parts:Array (Nat×Operand)}{r:AV}(h:yJ P env st T len parts=some (r,st')):Does P env st ⟨dst, .buildSlice T len parts,ty,pos,after,guard⟩ r st':=by
 unfold yJ at h
 cases h0:Nat.beq len 0&&parts.isEmpty with
 |true=>
  rw[h0,cdT] at h
  rw[Bool.and_eq_true] at h0
  have e0:=nbE h0.1
  have e1:parts= #[]:=by simpa using h0.2
  subst e0
  subst e1
  split at h
  ·rename_i hT
   simp only[ak,Prod.mk.injEq] at h
   obtain⟨rfl,rfl⟩:=h
   exact(eT hT).b.does
  ·cases h
 |false=>
 rw[h0,cdF] at h
 split at h
 ·rename_i hT hx
  split at h
  ·rename_i hz
   obtain⟨hc,h⟩:=cz h
   simp only[ak,Prod.mk.injEq] at h
   obtain⟨rfl,rfl⟩:=h
   simp only[Bool.and_eq_true,decide_eq_true_eq] at hc
   obtain⟨c1,c2,c3,c4,c5,c6⟩:=hc
   exact(ml hT hz (nbE c1) c2 (nbT c3) c4 hx c5 c6).b.does
  ·cases h
 ·cases h
theorem rn{T:Nat}{s x:Operand}{c:Call}{r:AV}(hcc:c=⟨.builtin .append, #[s,x], #[T,T]⟩)(h2:wM P env st s x T=some (r,st')):Does P env st ⟨dst, .call c,ty,pos,after,guard⟩ r st':=by
 unfold wM at h2
 split at h2
 ·rename_i hs hx hT
  split at h2
  ·rename_i ho hsrc hz
   obtain⟨hc',h3⟩:=cz h2
   rw[dp] at h3
   simp only[ak,Prod.mk.injEq] at h3
   obtain⟨rfl,rfl⟩:=h3
   simp only[Bool.and_eq_true,decide_eq_true_eq] at hc'
   obtain⟨c1,c2,c3,c4,c5,c6,c7,c8⟩:=hc'
   have c1:=nbE c1
   have c2:=nbE c2
   subst c1 c2
   exact sn (_T':=0) hT hz (nbE c3) (nbT c4) hcc hs (dH ho) hx (vf hsrc) c5 (λf hf=>nbE (List.all_eq_true.1 c6 f hf)) c7 c8
  ·cases h2
 ·cases h2
theorem vj{T:Nat}{x hi:Operand}{r:AV}(h:xQ P env st T x hi=some (r,st')):Does P env st ⟨dst, .slice T x none (some hi) none,ty,pos,after,guard⟩ r st':=by
 unfold xQ at h
 split at h
 ·rename_i id ver k bb n hx hT hb
  split at h
  ·rename_i e k' es ho
   obtain⟨hc,h⟩:=cz h
   simp only[ak,Prod.mk.injEq] at h
   obtain⟨rfl,rfl⟩:=h
   rw[Bool.and_eq_true] at hc
   have hk:=nbE hc.1
   subst hk
   have hbd:Bnd env (some hi) es.length n:=by
    have:=nD hb
    exact this
   exact d_pop hT hx (dH ho) hbd (nbT hc.2)
  ·cases h
 ·cases h
theorem wv{op:Op}{r:AV}(h:yu P env st op=some (r,st')):Does P env st ⟨dst,op,ty,pos,after,guard⟩ r st':=by
 unfold yu at h
 split at h
 ·split at h
  ·rename_i hx
   obtain⟨hc,h⟩:=cz h
   simp only[ak,Prod.mk.injEq] at h
   obtain⟨rfl,rfl⟩:=h
   exact(yK hx hc).does
  ·cases h
 ·split at h
  ·rename_i hz
   simp only[ak,Prod.mk.injEq] at h
   obtain⟨rfl,rfl⟩:=h
   exact(rj hz).does
  ·cases h
 ·exact rM h
 ·exact xT h
 ·exact wK h
 ·simp only[ak,Prod.mk.injEq] at h
  obtain⟨rfl,rfl⟩:=h
  exact tB.does
 ·exact tz (.inl rfl) h
 ·exact tz (.inr rfl) h
 ·exact xL h
 ·exact vj h
 ·rename_i c
  split at h
  ·rename_i s x T T' hc ha hg
   have hTT:=(cz h).1
   have h2:=(cz h).2
   clear h
   obtain rfl:=nbE hTT
   have hcc:c=⟨.builtin .append, #[s,x], #[T,T]⟩:=by
    obtain⟨c1,c2,c3⟩:=c
    subst hc
    have e2:c2= #[s,x]:=by rw[←ha]
    have e3:c3= #[T,T]:=by rw[←hg]
    rw[e2,e3]
   split at h2
   ·rename_i r' hr'
    obtain rfl:=inS h2
    exact rn hcc hr'
   ·unfold appN at h2
    split at h2
    ·split at h2
     ·rename_i e k _ hg he
      exact Does.nil_os _ e k hg (rn hcc h2)
     ·cases h2
    ·cases h2
  ·cases h
 ·cases h
theorem ny{op:Op}{r:AV}(h:exD P env st op=some (r,st')):Does P env st ⟨dst,op,ty,pos,after,guard⟩ r st':=by
 unfold exD at h
 split at h
 ·rename_i hx
  rw[dp] at h
  simp only[ak,Prod.mk.injEq] at h
  obtain⟨rfl,rfl⟩:=h
  exact wv hx
 ·cases h
end
abbrev bH:=FuncId→List AV→List AO→Option (AV×List AO)
def cw(P:Program)(call:bH):Prop:=∀f asz st r st',call f asz st=some (r,st')→Ctr P f asz st (λr' s'=>r'=r∧s'=st')
def iP(nt:Nat)(o:Oper)(env:Env)(r:AV)(st:List AO):Option (Env×List AO):=match o.dst with
 |some d=>bif Nat.ble (d+1) nt then some ((d,r)::env,st) else none
 |none=>some (env,st)
def nilX(P:Program)(env:Env)(st:List AO):Op→Option (Env×List AO)
 | .call c=>(match c.args.toList,c.argTypes.toList with
  |[.tmp s,_],[T,_]=>(match env.get s,bU P T with
   |some (.d (.v (.slice none 0 0))),some (e,k,_)=>some ((s, .os st.length 0)::env,st++ [.os e k 0 []])
   |_,_=>none)
  |_,_=>none)
 |_=>none
def rf(call:bH)(env:Env)(st:List AO):Op→Option (AV×List AO)
 | .call c=>(match c.callee with
  | .value x=>(match opv env x,bO env c.args.toList with
   |some (.fn (.func f) first caps),some asz=>call f (first++asz++caps) st
   |_,_=>none)
  |_=>none)
 |_=>none
abbrev nG:=Nat→List AV→List AO→Option (AV×List AO)
def o9(P:Program)(yld:nG):Prop:=∀id asz st r st',yld id asz st=some (r,st')→∀(e:En)(ops:Array Oper)(rest:List Oper)(o:Oper)(env:Env)(R:Env→List AO→Prop)(c:Call)(x:Operand)(d:Nat),
 o.op= .call c→c.callee= .value x→opv env x=some (.yl id)→bO env c.args.toList=some asz→Wt ops env o true→o.dst=some d→Nat.ble (d+1) e.n=true→WL P e ops rest ((d,r)::env) st' R→WL P e ops (o::rest) env st R
def ylX(yld:nG)(env:Env)(st:List AO):Op→Option (AV×List AO)
 | .call c=>(match c.callee with
  | .value x=>(match opv env x,bO env c.args.toList with
   |some (.yl id),some asz=>yld id asz st
   |_,_=>none)
  |_=>none)
 |_=>none
def exE(P:Program)(t:Ty)(nt:Nat)(call:bH)(yld:nG)(ops:Array Oper)(env:Env)(st:List AO)(o:Oper):Option (Env×List AO):=
 match iG ops env o.guard with
 |none=>none
 |some false=>iP nt o env (.d (.v undef)) st
 |some true=>match exY P t env st o.op with
  |some r=>(match o.dst with
   |some _=>iP nt o env r st
   |none=>none)
  |none=>(match exD P env st o.op with
   |some (r,st')=>iP nt o env r st'
   |none=>(match rf call env st o.op with
    |some (r,st')=>(match o.dst with
     |some _=>iP nt o env r st'
     |none=>none)
    |none=>(match nilX P env st o.op with
     |some (env1,st1)=>(match iG ops env1 o.guard,exD P env1 st1 o.op with
      |some true,some (r,st')=>iP nt o env1 r st'
      |_,_=>none)
     |none=>(match ylX yld env st o.op with
      |some (r,st')=>(match o.dst with
       |some _=>iP nt o env r st'
       |none=>none)
      |none=>none))))
abbrev fZ:=Oper→Env→List AO→Option (Env×List AO)
def jS(hook:fZ):Prop:=∀(e:En) o env st env' st',hook o env st=some (env',st')→Gh e env st env' st'
def exL(P:Program)(t:Ty)(nt:Nat)(call:bH)(yld:nG)(hook:fZ)(ops:Array Oper):List Oper→Env→List AO→Option (Env×List AO)
 |[],env,st=>some (env,st)
 |o::l,env,st=>match hook o env st with
  |some (env1,st1)=>(match exE P t nt call yld ops env1 st1 o with
   |some (env',st')=>exL P t nt call yld hook ops l env' st'
   |none=>none)
  |none=>(match exE P t nt call yld ops env st o with
   |some (env',st')=>exL P t nt call yld hook ops l env' st'
   |none=>none)
section
variable{P:Program}{t:Ty}{nt:Nat}{call:bH}{yld:nG}{e:En}{ops:Array Oper}{l:List Oper}{R:Env→List AO→Prop}{env env':Env}{st st':List AO}
theorem xn{o:Oper}{r:AV}(hw:Wt ops env o true)(hy:Does P env st o r st')(hn:e.n=nt)(hp:iP nt o env r st'=some (env',st'))(k:WL P e ops l env' st' R):WL P e ops (o::l) env st R:=by
 unfold iP at hp
 split at hp
 ·rename_i d hd
  obtain⟨hb,hp⟩:=cz hp
  simp only[ak,Prod.mk.injEq] at hp
  obtain⟨rfl,_⟩:=hp
  exact WL.s hy hw hd (by rw[hn];exact hb) k
 ·rename_i hd
  simp only[ak,Prod.mk.injEq] at hp
  obtain⟨rfl,_⟩:=hp
  exact WL.s0 hy hw hd k
theorem qA{o:Oper}{r:AV}{s:List AO}(h:iP nt o env r s=some (env',st')):st'=s:=by
 unfold iP at h
 split at h
 ·obtain⟨_,h⟩:=cz h
  simp only[ak,Prod.mk.injEq] at h
  exact h.2.symm
 ·simp only[ak,Prod.mk.injEq] at h
  exact h.2.symm
theorem uq(ht:t.ok P=true)(hc:cw P call)(hyl:o9 P yld)(hn:e.n=nt){o:Oper}(h:exE P t nt call yld ops env st o=some (env',st'))(k:WL P e ops l env' st' R):WL P e ops (o::l) env st R:=by
 unfold exE at h
 split at h
 ·cases h
 ·rename_i hw
  unfold iP at h
  split at h
  ·rename_i d hd
   obtain⟨hb,h⟩:=cz h
   simp only[ak,Prod.mk.injEq] at h
   obtain⟨rfl,rfl⟩:=h
   exact WL.skip (co hw) hd (by rw[hn];exact hb) k
  ·rename_i hd
   simp only[ak,Prod.mk.injEq] at h
   obtain⟨rfl,rfl⟩:=h
   exact WL.skip0 (co hw) hd k
 ·rename_i hw
  have hw:=dg hw
  split at h
  ·rename_i r hr
   split at h
   ·rename_i d hd
    unfold iP at h
    rw[hd] at h
    obtain⟨hb,h⟩:=cz h
    simp only[ak,Prod.mk.injEq] at h
    obtain⟨rfl,rfl⟩:=h
    obtain⟨od,oop,oty,opos,oaf,og⟩:=o
    exact WL.q (uk ht hr) hw hd (by rw[hn];exact hb) k
   ·cases h
  ·split at h
   ·rename_i r s hr
    obtain rfl:=qA h
    obtain⟨od,oop,oty,opos,oaf,og⟩:=o
    exact xn hw (ny hr) hn h k
   ·split at h
    ·rename_i r s hr
     split at h
     ·rename_i d hd
      unfold iP at h
      rw[hd] at h
      obtain⟨hb,h⟩:=cz h
      simp only[ak,Prod.mk.injEq] at h
      obtain⟨rfl,rfl⟩:=h
      unfold rf at hr
      split at hr
      ·rename_i c hop
       split at hr
       ·rename_i x hx
        split at hr
        ·rename_i f first caps asz hf has
         refine WL.call (Q:=λr' s'=>r'=r∧s'=s) hop hx hf has (hc _ _ _ _ _ hr) (Les.refl _) hw hd (by rw[hn];exact hb) λr' s' hq=>?_
         obtain⟨rfl,rfl⟩:=hq
         exact k
        ·cases hr
       ·cases hr
      ·cases hr
     ·cases h
    ·split at h
     ·rename_i env1 st1 h1
      split at h
      ·rename_i r s hw1 hr
       obtain rfl:=qA h
       unfold nilX at h1
       split at h1
       ·split at h1
        ·split at h1
         ·rename_i T1 k1 _ hg he
          simp only[ak,Prod.mk.injEq] at h1
          obtain⟨rfl,rfl⟩:=h1
          refine WL.nil_os _ T1 k1 hg ?_
          obtain⟨od,oop,oty,opos,oaf,og⟩:=o
          exact xn (dg hw1) (ny hr) hn h k
         ·cases h1
        ·cases h1
       ·cases h1
      ·cases h
     ·split at h
      ·rename_i r s hr
       split at h
       ·rename_i d hd
        unfold iP at h
        rw[hd] at h
        obtain⟨hb,h⟩:=cz h
        simp only[ak,Prod.mk.injEq] at h
        obtain⟨rfl,rfl⟩:=h
        unfold ylX at hr
        split at hr
        ·rename_i c hop
         split at hr
         ·rename_i x hx
          split at hr
          ·rename_i id asz hf has
           exact hyl _ _ _ _ _ hr _ _ _ _ _ _ _ _ _ hop hx hf has hw hd (by rw[hn];exact hb) k
          ·cases hr
         ·cases hr
        ·cases hr
       ·cases h
      ·cases h
theorem pV(ht:t.ok P=true)(hc:cw P call)(hyl:o9 P yld){hook:fZ}(hh:jS hook)(hn:e.n=nt):∀{l:List Oper}{env:Env}{st:List AO},exL P t nt call yld hook ops l env st=some (env',st')→R env' st'→WL P e ops l env st R
 |[],env,st,h,k=>by
  simp only[exL,ak,Prod.mk.injEq] at h
  obtain⟨rfl,rfl⟩:=h
  exact WL.nil k
 |o::l,env,st,h,k=>by
  unfold exL at h
  split at h
  ·rename_i hk
   split at h
   ·rename_i hs
    exact(hh e _ _ _ _ _ hk).wl (uq ht hc hyl hn hs (pV ht hc hyl hh hn h k))
   ·cases h
  ·split at h
   ·rename_i hs
    exact uq ht hc hyl hn hs (pV ht hc hyl hh hn h k)
   ·cases h
end
def eqV:Value→Value→Bool
 | .int k a, .int k' b=>decide (k=k')&&decide (a=b)
 | .bool a, .bool b=>a==b
 | .slice none 0 0, .slice none 0 0=>true
 | .pointer none, .pointer none=>true
 | .map none, .map none=>true
 | .tuple a, .tuple b=>a.toList.isEmpty&&b.toList.isEmpty
 | .string a, .string b=>a.data.toList==b.data.toList
 |_,_=>false
theorem ur:∀{a b:Value},eqV a b=true→a=b:=by
 intro a b h
 unfold eqV at h
 split at h
 ·simp only[Bool.and_eq_true,decide_eq_true_eq] at h
  rw[h.1,h.2]
 ·simp only[beq_iff_eq] at h
  rw[h]
 ·rfl
 ·rfl
 ·rfl
 ·rename_i a b
  obtain⟨a⟩:=a;obtain⟨b⟩:=b
  rw[Bool.and_eq_true,List.isEmpty_iff,List.isEmpty_iff] at h
  simp only at h
  rw[h.1,h.2]
 ·rename_i a b
  rw[beq_iff_eq] at h
  have:a=b:=by
   obtain⟨⟨a⟩⟩:=a;obtain⟨⟨b⟩⟩:=b
   simp only at h
   rw[h]
  rw[this]
 ·cases h
mutual
def eqD:D→D→Bool
 | .v a, .v b=>eqV a b
 | .sl a, .sl b=>eqDss a b
 | .pc a, .pc b=>eqDs a b
 | .ag a, .ag b=>eqDs a b
 | .tu a, .tu b=>eqDs a b
 |_,_=>false
def eqDs:List D→List D→Bool
 |[],[]=>true
 |x::a,y::b=>eqD x y&&eqDs a b
 |_,_=>false
def eqDss:List (List D)→List (List D)→Bool
 |[],[]=>true
 |x::a,y::b=>eqDs x y&&eqDss a b
 |_,_=>false
end
mutual
theorem ut:∀{a b:D},eqD a b=true→a=b
 | .v a,b,h=>by
  cases b<;>first|(simp only[eqD] at h;rw[ur h])|simp[eqD] at h
 | .sl a,b,h=>by
  cases b<;>first|(simp only[eqD] at h;rw[eqDss_ok h])|simp[eqD] at h
 | .pc a,b,h=>by
  cases b<;>first|(simp only[eqD] at h;rw[eqDs_ok h])|simp[eqD] at h
 | .ag a,b,h=>by
  cases b<;>first|(simp only[eqD] at h;rw[eqDs_ok h])|simp[eqD] at h
 | .tu a,b,h=>by
  cases b<;>first|(simp only[eqD] at h;rw[eqDs_ok h])|simp[eqD] at h
 | .ifc t a,b,h=>by simp[eqD] at h
 | .fnc f a c,b,h=>by simp[eqD] at h
theorem eqDs_ok:∀{a b:List D},eqDs a b=true→a=b
 |[],b,h=>by cases b with
  |nil=>rfl
  |cons y b=>simp[eqDs] at h
 |x::a,b,h=>by cases b with
  |nil=>simp[eqDs] at h
  |cons y b=>
   simp only[eqDs,Bool.and_eq_true] at h
   rw[ut h.1,eqDs_ok h.2]
theorem eqDss_ok:∀{a b:List (List D)},eqDss a b=true→a=b
 |[],b,h=>by cases b with
  |nil=>rfl
  |cons y b=>simp[eqDss] at h
 |x::a,b,h=>by cases b with
  |nil=>simp[eqDss] at h
  |cons y b=>
   simp only[eqDss,Bool.and_eq_true] at h
   rw[eqDs_ok h.1,eqDss_ok h.2]
end
mutual
def sk:AV→AV→Bool
 | .u, .u=>true
 | .d a, .d b=>eqD a b
 | .pt i o, .pt j p=>Nat.beq i j&&Nat.beq o p
 | .os i o, .os j p=>Nat.beq i j&&Nat.beq o p
 | .pe i v o, .pe j u p=>Nat.beq i j&&(Nat.beq v u&&Nat.beq o p)
 | .ag a, .ag b=>eqAVs a b
 | .tu a, .tu b=>eqAVs a b
 | .mp i, .mp j=>Nat.beq i j
 | .fn (.func f) a c, .fn (.func g) b d=>Nat.beq f g&&(eqAVs a b&&eqAVs c d)
 |_,_=>false
def eqAVs:List AV→List AV→Bool
 |[],[]=>true
 |x::a,y::b=>sk x y&&eqAVs a b
 |_,_=>false
end
mutual
theorem kB:∀{a b:AV},sk a b=true→a=b:=by
 intro a b h
 unfold sk at h
 split at h
 ·rfl
 ·rw[ut h]
 ·simp only[Bool.and_eq_true] at h
  rw[nbE h.1,nbE h.2]
 ·simp only[Bool.and_eq_true] at h
  rw[nbE h.1,nbE h.2]
 ·simp only[Bool.and_eq_true] at h
  rw[nbE h.1,nbE h.2.1,nbE h.2.2]
 ·rw[eqAVs_ok h]
 ·rw[eqAVs_ok h]
 ·rw[nbE h]
 ·simp only[Bool.and_eq_true] at h
  rw[nbE h.1,eqAVs_ok h.2.1,eqAVs_ok h.2.2]
 ·cases h
theorem eqAVs_ok:∀{a b:List AV},eqAVs a b=true→a=b:=by
 intro a b h
 unfold eqAVs at h
 split at h
 ·rfl
 ·simp only[Bool.and_eq_true] at h
  rw[kB h.1,eqAVs_ok h.2]
 ·cases h
end
theorem uJ{c a:Bool}(h:(bif c then a else false)=true):c=true∧a=true:=by
 cases c
 ·cases h
 ·exact⟨rfl,h⟩
def wz:List (Value×Nat)→List (Value×Nat)→Bool
 |[],[]=>true
 |x::xs,y::ys=>eqV x.1 y.1&&(Nat.beq x.2 y.2&&wz xs ys)
 |_,_=>false
theorem q8:∀{a b:List (Value×Nat)},wz a b=true→a=b
 |[],[],_=>rfl
 |(x,n)::xs,(y,k)::ys,h=>by
  simp only[wz,Bool.and_eq_true] at h
  rw[ur h.1,nbE h.2.1,q8 h.2.2]
 |[],_::_,h=>by cases h
 |_::_,[],h=>by cases h
def wy:List Nat→List Nat→Bool
 |[],[]=>true
 |x::xs,y::ys=>Nat.beq x y&&wy xs ys
 |_,_=>false
theorem q7:∀{a b:List Nat},wy a b=true→a=b
 |[],[],_=>rfl
 |x::xs,y::ys,h=>by
  simp only[wy,Bool.and_eq_true] at h
  rw[nbE h.1,q7 h.2]
 |[],_::_,h=>by cases h
 |_::_,[],h=>by cases h
def eqq(x y:AV):Bool:=match x,y with
 | .d (.v (.int k a)), .d (.v (.int k' b))=>bif decide (k=k') then decide (a=b) else false
 | .os i o, .os j p=>Nat.beq i j&&Nat.beq o p
 |x,y=>sk x y
theorem yx{x y:AV}(h:eqq x y=true):x=y:=by
 unfold eqq at h
 split at h
 ·obtain⟨h1,h2⟩:=uJ h
  rw[of_decide_eq_true h1,of_decide_eq_true h2]
 ·rw[Bool.and_eq_true] at h
  rw[nbE h.1,nbE h.2]
 ·exact kB h
def sj:List AV→List AV→Bool
 |[],[]=>true
 |x::xs,y::ys=>bif eqq x y then sj xs ys else false
 |_,_=>false
theorem nz:∀{a b:List AV},sj a b=true→a=b
 |[],[],_=>rfl
 |x::xs,y::ys,h=>by
  obtain⟨h1,h2⟩:=uJ (show(bif eqq x y then sj xs ys else false)=true from h)
  rw[yx h1,nz h2]
 |[],_::_,h=>by cases h
 |_::_,[],h=>by cases h
def q6:List (List AV)→List (List AV)→Bool
 |[],[]=>true
 |x::xs,y::ys=>bif sj x y then q6 xs ys else false
 |_,_=>false
theorem oR:∀{a b:List (List AV)},q6 a b=true→a=b
 |[],[],_=>rfl
 |x::xs,y::ys,h=>by
  obtain⟨h1,h2⟩:=uJ (show(bif sj x y then q6 xs ys else false)=true from h)
  rw[nz h1,oR h2]
 |[],_::_,h=>by cases h
 |_::_,[],h=>by cases h
def yA:AO→AO→Bool
 | .row T cs, .row T' cs'=>Nat.beq T T'&&sj cs cs'
 | .os T k v es, .os T' k' v' es'=>Nat.beq T T'&&(Nat.beq k k'&&(Nat.beq v v'&&q6 es es'))
 | .mb es xs c, .mb es' xs' c'=>Nat.beq c c'&&(wz es es'&&eqAVs xs xs')
 | .it s a b c, .it s' a' b' c'=>sk s s'&&(Nat.beq a a'&&(Nat.beq c c'&&wy b b'))
 | .dead, .dead=>true
 |_,_=>false
theorem wA{a b:AO}(h:yA a b=true):a=b:=by
 unfold yA at h
 split at h
 ·rw[Bool.and_eq_true] at h
  rw[nbE h.1,nz h.2]
 ·simp only[Bool.and_eq_true] at h
  rw[nbE h.1,nbE h.2.1,nbE h.2.2.1,oR h.2.2.2]
 ·simp only[Bool.and_eq_true] at h
  rw[nbE h.1,q8 h.2.1,eqAVs_ok h.2.2]
 ·simp only[Bool.and_eq_true] at h
  rw[kB h.1,nbE h.2.1,nbE h.2.2.1,q7 h.2.2.2]
 ·rfl
 ·cases h
def kd:List AO→List AO→Bool
 |[],[]=>true
 |x::xs,y::ys=>yA x y&&kd xs ys
 |_,_=>false
theorem iY:∀{a b:List AO},kd a b=true→a=b
 |[],[],_=>rfl
 |x::xs,y::ys,h=>by
  simp only[kd,Bool.and_eq_true] at h
  rw[wA h.1,iY h.2]
 |[],_::_,h=>by cases h
 |_::_,[],h=>by cases h
theorem nu{F:Env}:∀{env:Env}{t:Nat}{x:AV},env.get t=some x→(env++F).get t=some x
 |[],t,x,h=>by cases h
 |(k,v)::env,t,x,h=>by
  show(bif Nat.beq t k then some v else Env.get (env++F) t)=some x
  have h:(bif Nat.beq t k then some v else Env.get env t)=some x:=h
  cases hb:Nat.beq t k with
  |true=>rw[hb] at h;exact h
  |false=>rw[hb] at h;exact nu h
theorem EnvOk.app{m:List Cz}{φ:Nat→Nat}{w:World}{env F:Env}{a:Act}(h:EnvOk m φ w (env++F) a):EnvOk m φ w env a:=⟨λt x hx=>h.get t x (nu hx),h.gl⟩
theorem nh{env F:Env}{x:Operand}{r:AV}(h:opv env x=some r):opv (env++F) x=some r:=by
 cases x with
 |tmp t=>exact nu h
 |_=>exact h
section
variable{P:Program}{env F:Env}{st st':List AO}{o:Oper}{r:AV}
theorem Yields.app(h:Yields P env st o r):Yields P (env++F) st o r:=λm φ a w hs he=>h m φ a w hs he.app
theorem Does.app(h:Does P env st o r st'):Does P (env++F) st o r st':=λm φ a w hs he=>h m φ a w hs he.app
end
theorem lh{env F:Env}:∀{l:List Operand}{xs:List AV},bO env l=some xs→bO (env++F) l=some xs
 |[],xs,h=>h
 |x::l,xs,h=>by
  unfold bO at h⊢
  split at h
  ·rename_i h1 h2
   rw[nh h1,lh h2]
   exact h
  ·cases h
theorem Wt.app{ops:Array Oper}{env F:Env}{o:Oper}{b:Bool}(h:Wt ops env o b):Wt ops (env++F) o b:=λm φ w a he=>h m φ w a he.app
def k9(o:Oper)(r:AV)(env:Env):Env:=match o.dst with
 |some d=>(d,r)::env
 |none=>env
class PC(P:Program) where
 pc:FuncId→List AV→Option AV
 ok:∀f asz r st,pc f asz=some r→Ctr P f asz st (λr' s'=>r'=r∧s'=st)
def purX(P:Program)[PC P](env:Env):Op→Option AV
 | .call c=>(match c.callee with
  | .value x=>(match opv env x,bO env c.args.toList with
   |some (.fn (.func f) first caps),some asz=>PC.pc P f (first++asz++caps)
   |_,_=>none)
  |_=>none)
 |_=>none
def exP(P:Program)[PC P](t:Ty)(ops:Array Oper)(env:Env)(st:List AO)(o:Oper):Option AV:=
 match iG ops env o.guard with
 |none=>none
 |some false=>some (.d (.v undef))
 |some true=>match exY P t env st o.op with
  |some r=>(match o.dst with
   |some _=>some r
   |none=>none)
  |none=>(match purX P env o.op with
   |some r=>(match o.dst with
    |some _=>some r
    |none=>none)
   |none=>none)
def oQ(P:Program)[PC P](t:Ty)(call:bH)(ops:Array Oper)(env:Env)(st:List AO)(o:Oper):Option (AV×List AO):=
 match exP P t ops env st o with
 |some r=>some (r,st)
 |none=>match iG ops env o.guard with
  |some true=>(match exD P env st o.op with
   |some rs=>some rs
   |none=>(match rf call env st o.op,o.dst with
    |some rs,some _=>some rs
    |_,_=>none))
  |_=>none
section
variable{P:Program}[PC P]{t:Ty}{call:bH}{e:En}{ops:Array Oper}{l:List Oper}{R:Env→List AO→Prop}{env F:Env}{st st':List AO}{o:Oper}{r:AV}
theorem ul(ht:t.ok P=true)(hd:∀d,o.dst=some d→Nat.ble (d+1) e.n=true)(h:exP P t ops env st o=some r)(k:WL P e ops l (k9 o r (env++F)) st R):WL P e ops (o::l) (env++F) st R:=by
 unfold exP at h
 split at h
 ·cases h
 ·rename_i hw
  obtain rfl:=inS h
  unfold k9 at k
  split at k
  ·rename_i d hdd;exact WL.skip (co hw).app hdd (hd d hdd) k
  ·rename_i hdd;exact WL.skip0 (co hw).app hdd k
 ·rename_i hw
  split at h
  ·rename_i r' hr
   split at h
   ·rename_i d hdd
    obtain rfl:=inS h
    unfold k9 at k
    rw[hdd] at k
    obtain⟨od,oop,oty,opos,oaf,og⟩:=o
    exact WL.q (uk ht hr).app (dg hw).app hdd (hd d hdd) k
   ·cases h
  ·split at h
   ·rename_i r' hr
    split at h
    ·rename_i d hdd
     obtain rfl:=inS h
     unfold k9 at k
     rw[hdd] at k
     unfold purX at hr
     split at hr
     ·rename_i c hop
      split at hr
      ·rename_i x hx
       split at hr
       ·rename_i f first caps asz hf has
        refine WL.call (Q:=λa b=>a=r'∧b=st) hop hx (nh hf) (lh has) (PC.ok _ _ _ _ hr) (Les.refl _) (dg hw).app hdd (hd d hdd) λa b hq=>?_
        obtain⟨rfl,rfl⟩:=hq
        exact k
       ·cases hr
      ·cases hr
     ·cases hr
    ·cases h
   ·cases h
theorem qY(ht:t.ok P=true)(hc:cw P call)(hd:∀d,o.dst=some d→Nat.ble (d+1) e.n=true)(h:oQ P t call ops env st o=some (r,st'))(k:WL P e ops l (k9 o r (env++F)) st' R):WL P e ops (o::l) (env++F) st R:=by
 unfold oQ at h
 split at h
 ·rename_i hp
  simp only[ak,Prod.mk.injEq] at h
  obtain⟨rfl,rfl⟩:=h
  exact ul ht hd hp k
 ·split at h
  ·rename_i hw
   have hw:=(dg hw).app (F:=F)
   split at h
   ·rename_i rs hr
    obtain rfl:=inS h
    unfold k9 at k
    split at k
    ·rename_i d hdd
     obtain⟨od,oop,oty,opos,oaf,og⟩:=o
     exact WL.s (ny hr).app hw hdd (hd d hdd) k
    ·rename_i hdd
     obtain⟨od,oop,oty,opos,oaf,og⟩:=o
     exact WL.s0 (ny hr).app hw hdd k
   ·split at h
    ·rename_i rs d hr hdd
     obtain rfl:=inS h
     unfold k9 at k
     rw[hdd] at k
     unfold rf at hr
     split at hr
     ·rename_i c hop
      split at hr
      ·rename_i x hx
       split at hr
       ·rename_i f first caps asz hf has
        refine WL.call (Q:=λr' s'=>r'=r∧s'=st') hop hx (nh hf) (lh has) (hc _ _ _ _ _ hr) (Les.refl _) hw hdd (hd d hdd) λr' s' hq=>?_
        obtain⟨rfl,rfl⟩:=hq
        exact k
       ·cases hr
      ·cases hr
     ·cases hr
    ·cases h
  ·cases h
end
def opT:List Operand→List Nat
 |[]=> []
 | .tmp t::l=>t::opT l
 |_::l=>opT l
def opsOf:Op→List Operand
 | .move x=> [x]
 | .assign x=> [x]
 | .pick c x y=> [c,x,y]
 | .load _ x=> [x]
 | .fieldAddr _ x _=> [x]
 | .field _ x _=> [x]
 | .nilCheck x=> [x]
 | .extract x _=> [x]
 | .unOp _ _ x=> [x]
 | .binOp _ _ x y _=> [x,y]
 | .convert _ _ x=> [x]
 | .makeFunc _ a b=>a.toList++b.toList
 | .indexAddr _ x y=> [x,y]
 | .index _ x y=> [x,y]
 | .box _ x=> [x]
 | .store _ x y=> [x,y]
 | .makeSlice _ x y=> [x,y]
 | .buildSlice _ _ ps=>ps.toList.map (·.2)
 | .build _ ps=>ps.toList.map (·.2)
 | .lookup _ x k _=> [x,k]
 | .insert _ x k v=> [x,k,v]
 | .mapUpdate _ x k v=> [x,k,v]
 | .range _ x=> [x]
 | .entry x=> [x]
 | .slice _ x lo hi _=>x::(lo.toList++hi.toList)
 | .call c=>(match c.callee with
  | .value x=>x::c.args.toList
  |_=>c.args.toList)
 |_=> []
def qM(l:List Oper)(x:Nat):Nat→Nat→Option Nat→Option Nat
 |0,_,acc=>acc
 |n+1,j,acc=>qM l x n (j+1) (match l[j]? with
  |some o=>bif o.dst==some x then some j else acc
  |none=>acc)
def fF(l:List Oper)(k:Nat):List Nat→List Nat×List Nat
 |[]=>([],[])
 |x::xs=>match qM l x k 0 none with
  |some j=>(j::(fF l k xs).1,(fF l k xs).2)
  |none=>((fF l k xs).1,x::(fF l k xs).2)
def dh(l:List Oper)(o:Oper):List Nat:=(match o.guard with
 |some (j,_)=>(match(l[j]?).bind (·.dst) with
  |some d=> [d]
  |none=> [])
 |none=> [])++opT (opsOf o.op)
def csX(tc:List (List Nat))(es:List Nat)(k:Nat):List Nat:=(List.range (es.length+1)).filter λc=>
 !(match es[c]? with
  |some y=>(tc.getD k []).contains y
  |none=>false)&& !((es.take c).any λy=>Nat.beq y k||(tc.getD y []).contains k)
def gU(l:List Oper)(tc:List (List Nat))(es:List Nat):Nat→List Oper→List (List Nat×List Nat×List Nat)
 |_,[]=> []
 |k,o::ol=>let p:=fF l k (dh l o);(p.1,p.2,csX tc es k)::gU l tc es (k+1) ol
def t6:Op→Bool
 | .call _=>true
 |_=>false
def okR(o:Oper)(rs:List AV)(k:Nat)(r:AV):Bool:=match o.dst with
 |some _=>(match rs[k]? with
  |some r'=>sk r r'
  |none=>false)
 |none=>true
section
variable{P:Program}[PC P]{t:Ty}{nt:Nat}{call:bH}{e:En}{l:List Oper}{rs:List AV}{base:Env}{es:List Nat}{L:List (List AO)}
theorem q'{ops:Array Oper}{env:Env}{st' stc:List AO}{o:Oper}{k:Nat}{r:AV}(hr:okR o rs k r=true)(hst:st'=stc):
  WL P e ops [] (k9 o r env) st' (λenv' st''=>st''=stc∧∃pre,env'=pre++env∧(∀t x,pre.get t=some x→o.dst=some t)∧∀d' r',o.dst=some d'→rs[k]? =some r'→pre.get d'=some r'):=by
 unfold okR at hr
 unfold k9
 split at hr
 ·rename_i d hd
  split at hr
  ·rename_i r' hr'
   obtain rfl:=kB hr
   rw[hd]
   have:=ft (P:=P) (e:=e) (ops:=ops) (env:=env) hd hr' hst
   rw[hd] at this
   exact this
  ·cases hr
 ·rename_i hd
  rw[hd]
  have:=bJ (P:=P) (e:=e) (rs:=rs) (ops:=ops) (env:=env) (k:=k) hd hst
  rw[hd] at this
  exact this
end
def cn(es:List Nat)(k:Nat):Nat:=(es.filter λy=>Nat.blt y k).length
def j6(P:Program)[PC P](t:Ty)(q:Bool)(call:bH)(l:List Oper)(base:Env):List Oper→Nat→List AV→List Nat→List (List AO)→List AO→Option (List AV×List Nat×List (List AO))
 |[],_,rs,es,L,_=>some (rs,es,L)
 |o::ol,k,rs,es,L,st=>bif (fF l k (dh l o)).1.all (λj=>Nat.blt j k) then
   dj (cZ l rs base (fF l k (dh l o)).1 (fF l k (dh l o)).2) (λev=>match exP P t l.toArray ev st o with
   |some r=>dj (rs++ [r]) λrs'=>j6 P t q call l base ol (k+1) rs' es L st
   |none=>(match oQ P t call l.toArray ev st o with
    |some (r,st')=>bif q&&(t6 o.op&&kd st' st) then dj (rs++ [r]) λrs'=>j6 P t q call l base ol (k+1) rs' es L st
     else dj (rs++ [r]) λrs'=>dj (es++ [k]) λes'=>dj (L++ [st']) λL'=>j6 P t q call l base ol (k+1) rs' es' L' st'
    |none=>none)) else none
def nK(P:Program)[PC P](t:Ty)(call:bH)(l:List Oper)(base:Env)(rs:List AV)(es:List Nat)(L:List (List AO))(j:Nat)(o:Oper):Prop:=
 ∃r,oQ P t call l.toArray (cZ l rs base (fF l j (dh l o)).1 (fF l j (dh l o)).2) (L.getD (cn es j) []) o=some (r,L.getD (bif es.contains j then cn es j+1 else cn es j) [])∧rs[j]? =some r
section
variable{P:Program}[PC P]{t:Ty}{call:bH}{l:List Oper}{base:Env}
theorem q9{rs rs':List AV}{tail:Env}:∀{pk:List Nat},(∀j∈pk,j<rs.length)→ekP l (rs++rs') tail pk=ekP l rs tail pk
 |[],_=>rfl
 |j::pk,h=>by
  have h1:eko l (rs++rs') j=eko l rs j:=by
   unfold eko
   rw[List.getElem?_append_left (h j List.mem_cons_self)]
  unfold ekP
  rw[h1,q9 λj' hj=>h j' (List.mem_cons_of_mem _ hj)]
theorem oT{rs rs':List AV}{pk bk:List Nat}(h:∀j∈pk,j<rs.length):cZ l (rs++rs') base pk bk=cZ l rs base pk bk:=q9 h
theorem o3{es es':List Nat}{k:Nat}(h1:∀y∈es,y<k)(h2:∀y∈es',k≤y):cn (es++es') k=es.length:=by
 unfold cn
 rw[List.filter_append,List.filter_eq_self.2 (λy hy=>by simpa[Nat.blt_eq] using h1 y hy),List.filter_eq_nil_iff.2 (λy hy=>by have:=h2 y hy;simp[Nat.blt_eq];omega)]
 simp
theorem oN{α:Type}{L L':List α}{n:Nat}{d:α}(h:n<L.length):(L++L').getD n d=L.getD n d:=by
 rw[List.getD_eq_getElem?_getD,List.getD_eq_getElem?_getD,List.getElem?_append_left h]
theorem oP{ops:Array Oper}{env:Env}{st:List AO}{o:Oper}{r:AV}(h:exP P t ops env st o=some r):oQ P t call ops env st o=some (r,st):=by
 unfold oQ;rw[h]
theorem ld{q:Bool}:∀{ol:List Oper}{k:Nat}{rs:List AV}{es:List Nat}{L:List (List AO)}{st:List AO}{rsF:List AV}{esF:List Nat}{LF:List (List AO)},j6 P t q call l base ol k rs es L st=some (rsF,esF,LF)→
  ol=l.drop k→rs.length=k→(∀y∈es,y<k)→L.length=es.length+1→L.getD es.length []=st→
  (∃rs',rsF=rs++rs'∧rs'.length=ol.length)∧(∃es',esF=es++es'∧∀y∈es',k≤y)∧(∃L',LF=L++L')∧LF.length=esF.length+1∧∀(j:Nat)(o:Oper),k≤j→l[j]? =some o→nK P t call l base rsF esF LF j o
 |[],k,rs,es,L,st,rsF,esF,LF,h,hol,hrs,hes,hL,hst=>by
  simp only[j6,ak,Prod.mk.injEq] at h
  obtain⟨rfl,rfl,rfl⟩:=h
  refine⟨⟨[],sM,rfl⟩,⟨[],sM,λy hy=>by cases hy⟩,⟨[],sM⟩,hL,λj o hj ho=>?_⟩
  have:l.length≤k:=by
   have:=congrArg List.length hol
   rw[List.length_drop] at this
   simp at this
   omega
  have:=(giS.1 ho).1
  omega
 |o::ol,k,rs,es,L,st,rsF,esF,LF,h,hol,hrs,hes,hL,hst=>by
  unfold j6 at h
  obtain⟨hpk,h⟩:=cz h
  simp only[dp] at h
  have hpk':∀j∈(fF l k (dh l o)).1,j<rs.length:=λj hj=>by
   have:=List.all_eq_true.1 hpk j hj
   rw[hrs]
   simpa[Nat.blt_eq] using this
  have hok:l[k]? =some o:=by
   have:(l.drop k)[0]? =some o:=by rw[←hol];rfl
   simpa using this
  have hol':ol=l.drop (k+1):=by
   have:(o::ol).drop 1=(l.drop k).drop 1:=by rw[hol]
   rw[List.drop_drop] at this
   simpa[Nat.add_comm] using this
  have hes1:∀y∈es,y<k+1:=λy hy=>Nat.lt_succ_of_lt (hes y hy)
  -- a quiet operation
  have quiet:∀{r:AV},oQ P t call l.toArray (cZ l rs base (fF l k (dh l o)).1 (fF l k (dh l o)).2) st o=some (r,st)→j6 P t q call l base ol (k+1) (rs++ [r]) es L st=some (rsF,esF,LF)→
    (∃rs',rsF=rs++rs'∧rs'.length=(o::ol).length)∧(∃es',esF=es++es'∧∀y∈es',k≤y)∧(∃L',LF=L++L')∧LF.length=esF.length+1∧∀(j:Nat)(o:Oper),k≤j→l[j]? =some o→nK P t call l base rsF esF LF j o:=λ{r} he hp=>by
   obtain⟨⟨rs',e1,e2⟩,⟨es',e3,e4⟩,⟨L',e5⟩,e6,e7⟩:=ld hp hol' (by simp[hrs]) hes1 hL hst
   refine⟨⟨r::rs',by rw[e1];simp,by simp[e2]⟩,⟨es',e3,λy hy=>Nat.le_of_succ_le (e4 y hy)⟩,⟨L',e5⟩,e6,λj o' hj ho'=>?_⟩
   rcases Nat.lt_or_ge k j with hj'|hj'
   ·exact e7 j o' hj' ho'
   ·have:j=k:=oM
    subst this
    rw[hok] at ho'
    obtain rfl:=inS ho'
    have hc:cn esF j=es.length:=by rw[e3];exact o3 hes λy hy=>Nat.le_of_succ_le (e4 y hy)
    have hn:esF.contains j=false:=by
     rw[e3,List.contains_eq_mem,decide_eq_false_iff_not,List.mem_append]
     rintro(hm|hm)
     ·exact absurd (hes j hm) (Nat.lt_irrefl _)
     ·exact absurd (e4 j hm) oM
    refine⟨r,?_,by rw[e1,List.append_assoc,List.getElem?_append_right oM,hrs];simp⟩
    rw[hn,cdF,hc,e5,oN oM,hst,e1,List.append_assoc,oT hpk']
    exact he
  split at h
  ·rename_i r hr
   exact quiet (oP hr) h
  ·split at h
   ·rename_i r st' hr
    cases hq:q&&(t6 o.op&&kd st' st) with
    |true=>
     rw[hq,cdT] at h
     rw[Bool.and_eq_true,Bool.and_eq_true] at hq
     have:=iY hq.2.2
     subst this
     exact quiet hr h
    |false=>
     rw[hq,cdF] at h
     obtain⟨⟨rs',e1,e2⟩,⟨es',e3,e4⟩,⟨L',e5⟩,e6,e7⟩:=ld h hol' (by simp[hrs]) (λy hy=>by
      rcases List.mem_append.1 hy with hy|hy
      ·exact hes1 y hy
      ·rw[List.mem_singleton.1 hy];exact Nat.lt_succ_self k) (by simp[hL]) (by rw[List.length_append,List.getD_eq_getElem?_getD,List.getElem?_append_right (by simp;omega)];simp[hL])
     refine⟨⟨r::rs',by rw[e1];simp,by simp[e2]⟩,⟨k::es',by rw[e3];simp,λy hy=>?_⟩,⟨st'::L',by rw[e5];simp⟩,e6,λj o' hj ho'=>?_⟩
     ·rcases List.mem_cons.1 hy with rfl|hy
      ·exact Nat.le_refl _
      ·exact Nat.le_of_succ_le (e4 y hy)
     ·rcases Nat.lt_or_ge k j with hj'|hj'
      ·exact e7 j o' hj' ho'
      ·have:j=k:=oM
       subst this
       rw[hok] at ho'
       obtain rfl:=inS ho'
       have e3':esF=es++(j::es'):=by rw[e3];simp
       have e5':LF=L++(st'::L'):=by rw[e5];simp
       have hc:cn esF j=es.length:=by
        rw[e3']
        refine o3 hes λy hy=>?_
        rcases List.mem_cons.1 hy with rfl|hy
        ·exact Nat.le_refl _
        ·exact Nat.le_of_succ_le (e4 y hy)
       have hn:esF.contains j=true:=by rw[e3',List.contains_eq_mem,decide_eq_true_eq];simp
       refine⟨r,?_,by rw[e1,List.append_assoc,List.getElem?_append_right oM,hrs];simp⟩
       rw[hn,cdT,hc,e1,List.append_assoc,oT hpk']
       have h1:LF.getD es.length []=st:=by rw[e5',oN oM,hst]
       have h2:LF.getD (es.length+1) []=st':=by
        rw[e5',List.getD_eq_getElem?_getD,List.getElem?_append_right oM]
        simp[hL]
       rw[h1,h2]
       exact hr
   ·cases h
end
def yE(nt:Nat)(o:Oper):Bool:=match o.dst with
 |some d=>Nat.ble (d+1) nt
 |none=>true
def yI(P:Program)[PC P](t:Ty)(call:bH)(l:List Oper)(rs:List AV)(base:Env)(es:List Nat)(L:List (List AO))(k:Nat)(o:Oper)(p:List Nat×List Nat×List Nat)(c:Nat):Bool:=
 Nat.beq c (cn es k)||(!(es.contains k)&&(match exP P t l.toArray (cZ l rs base p.1 p.2.1) (L.getD c []) o with
  |some r=>okR o rs k r
  |none=>(match oQ P t call l.toArray (cZ l rs base p.1 p.2.1) (L.getD c []) o with
   |some (r,st')=>okR o rs k r&&kd st' (L.getD c [])
   |none=>false)))
def vm(P:Program)[PC P](t:Ty)(nt:Nat)(call:bH)(l:List Oper)(rs:List AV)(base:Env)(es:List Nat)(L:List (List AO)):Nat→List Oper→List (List Nat×List Nat×List Nat)→Bool
 |k,o::ol,p::ps=>yE nt o&&((p.2.2.all λc=>yI P t call l rs base es L k o p c)&&vm P t nt call l rs base es L (k+1) ol ps)
 |_,_,_=>true
section
variable{P:Program}[PC P]{t:Ty}{nt:Nat}{call:bH}{e:En}{l:List Oper}{rs:List AV}{base:Env}{es:List Nat}{L:List (List AO)}
theorem mz{tc:List (List Nat)}:∀{ol:List Oper}{k j:Nat}{o:Oper},ol[j]? =some o→(gU l tc es k ol)[j]? =some ((fF l (k+j) (dh l o)).1,(fF l (k+j) (dh l o)).2,csX tc es (k+j))
 |o0::ol,k,0,o,h=>by
  obtain rfl:=inS h
  rfl
 |o0::ol,k,j+1,o,h=>by
  have:=mz (tc:=tc) (ol:=ol) (k:=k+1) (j:=j) (o:=o) (by simpa using h)
  rw[show k+(j+1)=k+1+j by omega]
  exact this
 |[],_,_,_,h=>by simp at h
theorem wC{ops:Array Oper}{env:Env}{st' stc:List AO}{o:Oper}{k:Nat}{r:AV}(hr:rs[k]? =some r)(hst:st'=stc):
  WL P e ops [] (k9 o r env) st' (λenv' st''=>st''=stc∧∃pre,env'=pre++env∧(∀t x,pre.get t=some x→o.dst=some t)∧∀d' r',o.dst=some d'→rs[k]? =some r'→pre.get d'=some r'):=by
 unfold k9
 split
 ·rename_i d hd
  have:=ft (P:=P) (e:=e) (ops:=ops) (env:=env) hd hr hst
  rw[hd] at this
  rw[hd]
  exact this
 ·rename_i hd
  have:=bJ (P:=P) (e:=e) (rs:=rs) (ops:=ops) (env:=env) (k:=k) hd hst
  rw[hd] at this
  rw[hd]
  exact this
theorem qF{sts:Nat→List AO}{k:Nat}{o:Oper}{pk bk:List Nat}{up:Bool}:∀{cs:List Nat},(∀c∈cs,Ob P e l rs base sts k o pk bk c (bif up then c+1 else c))→ObC P e l rs base sts k o pk bk up cs
 |[],_=>trivial
 |c::cs,h=>⟨h c List.mem_cons_self,qF λc' hc=>h c' (List.mem_cons_of_mem _ hc)⟩
theorem wH(ht:t.ok P=true)(hc:cw P call)(hn:e.n=nt){k c:Nat}{o:Oper}{p:List Nat×List Nat×List Nat}(hp:nK P t call l base rs es L k o)(hpp:p.1=(fF l k (dh l o)).1∧p.2.1=(fF l k (dh l o)).2)(h0:yE nt o=true)
  (h:yI P t call l rs base es L k o p c=true):Ob P e l rs base (λc=>L.getD c []) k o p.1 p.2.1 c (bif es.contains k then c+1 else c):=λF=>by
 have hd:∀d,o.dst=some d→Nat.ble (d+1) e.n=true:=λd hd=>by unfold yE at h0;rw[hd] at h0;rw[hn];exact h0
 unfold yI at h
 rw[Bool.or_eq_true] at h
 rcases h with h|h
 ·have:=nbE h
  subst this
  obtain⟨r,h1,h2⟩:=hp
  rw[hpp.1,hpp.2]
  exact qY ht hc hd h1 (wC h2 rfl)
 ·rw[Bool.and_eq_true,Bool.not_eq_true'] at h
  rw[h.1,cdF]
  have h:=h.2
  split at h
  ·rename_i r hr
   exact ul ht hd hr (q' h rfl)
  ·split at h
   ·rename_i r st' hr
    rw[Bool.and_eq_true] at h
    exact qY ht hc hd hr (q' h.1 (iY h.2))
   ·cases h
theorem qE(ht:t.ok P=true)(hc:cw P call)(hn:e.n=nt){tc:List (List Nat)}(hp:∀(j:Nat)(o:Oper),l[j]? =some o→nK P t call l base rs es L j o):∀{ol:List Oper}{ps:List (List Nat×List Nat×List Nat)}{k:Nat},ol=l.drop k→ps=(gU l tc es 0 l).drop k→vm P t nt call l rs base es L k ol ps=true→
  Obs P e l rs base (λc=>L.getD c []) es k ol ps
 |[],_,_,_,_,_=>trivial
 |_::_,[],_,_,_,_=>trivial
 |o::ol,p::ps,k,h1,h2,h=>by
  unfold vm at h
  rw[Bool.and_eq_true,Bool.and_eq_true] at h
  have ho:l[k]? =some o:=by
   have:(l.drop k)[0]? =some o:=by rw[←h1];rfl
   simpa using this
  have hpl:(gU l tc es 0 l)[k]? =some p:=by
   have:((gU l tc es 0 l).drop k)[0]? =some p:=by rw[←h2];rfl
   simpa using this
  have hpe:p=((fF l k (dh l o)).1,(fF l k (dh l o)).2,csX tc es k):=by
   have:=mz (l:=l) (tc:=tc) (es:=es) (k:=0) ho
   rw[Nat.zero_add,hpl] at this
   exact inS this
  have h1':ol=l.drop (k+1):=by
   have:(o::ol).drop 1=(l.drop k).drop 1:=by rw[h1]
   rw[List.drop_drop] at this
   simpa[Nat.add_comm] using this
  have h2':ps=(gU l tc es 0 l).drop (k+1):=by
   have:(p::ps).drop 1=((gU l tc es 0 l).drop k).drop 1:=by rw[h2]
   rw[List.drop_drop] at this
   simpa[Nat.add_comm] using this
  exact⟨qF λc hcm=>wH ht hc hn (hp k o ho) (by rw[hpe];exact⟨rfl,rfl⟩) h.1 (List.all_eq_true.1 h.2.1 c hcm),qE ht hc hn hp h1' h2' h.2.2⟩
end
def ww(P:Program)[PC P](t:Ty)(q:Bool)(nt:Nat)(call:bH)(l:List Oper)(base:Env)(st:List AO):Option (Env×List AO):=
 match j6 P t q call l base l 0 [] [] [st] st with
 |some (rs,es,L)=>bif P.follows .mixedOrders&&(kg l (tcF l) es (gU l (tcF l) es 0 l)&&(Nat.beq rs.length l.length&&(es.all (λy=>Nat.blt y l.length)&&(vm P t nt call l rs base es L 0 l (gU l (tcF l) es 0 l)&&bn l))))
   then dj (FL base (λk=>Nat.blt k l.length) (bi l rs 0)) (λev=>some (ev,L.getD es.length [])) else none
 |none=>none
theorem qZ{P:Program}[PC P]{t:Ty}{q:Bool}{nt:Nat}{call:bH}{e:En}(ht:t.ok P=true)(hc:cw P call)(hn:e.n=nt){l:List Oper}{base env':Env}{st st':List AO}{id:Nat}{κ:Ko}(h:ww P t q nt call l base st=some (env',st'))(k:WE P e .normal κ env' st'):WC P e (.region id l.toArray true) κ base st:=by
 unfold ww at h
 split at h
 ·rename_i rs es L hs
  obtain⟨hh,h⟩:=cz h
  rw[dp] at h
  simp only[ak,Prod.mk.injEq] at h
  obtain⟨rfl,rfl⟩:=h
  simp only[Bool.and_eq_true] at hh
  obtain⟨c1,c2,c3,c4,c5,c6⟩:=hh
  obtain⟨_,_,⟨L',h0⟩,_,hp⟩:=ld hs sM rfl (λy hy=>by cases hy) rfl rfl
  exact gR rs (tcF l) es (λc=>L.getD c []) (gU l (tcF l) es 0 l) c1 c2 c3 c4 (by show L.getD 0 []=st;rw[h0];rfl) (qE (tc:=tcF l) ht hc hn (λj o ho=>hp j o (Nat.zero_le _) ho) sM sM c5) k c6
 ·cases h
def exA(P:Program)[PC P](t:Ty)(nt:Nat)(call:bH)(l:List Oper)(base:Env)(st:List AO):Option (Env×List AO):=match ww P t false nt call l base st with
 |some r=>some r
 |none=>ww P t true nt call l base st
theorem yw{P:Program}[PC P]{t:Ty}{nt:Nat}{call:bH}{e:En}(ht:t.ok P=true)(hc:cw P call)(hn:e.n=nt){l:List Oper}{base env':Env}{st st':List AO}{id:Nat}{κ:Ko}(h:exA P t nt call l base st=some (env',st'))(k:WE P e .normal κ env' st'):WC P e (.region id l.toArray true) κ base st:=by
 unfold exA at h
 split at h
 ·rename_i hr
  obtain rfl:=inS h
  exact qZ ht hc hn hr k
 ·exact qZ ht hc hn h k
def nF(env:Env):List Nat→Option (List AV)
 |[]=>some []
 |t::l=>match env.get t,nF env l with
  |some x,some xs=>some (x::xs)
  |_,_=>none
theorem mN{env:Env}:∀{l:List Nat}{xs:List AV},nF env l=some xs→bO env (l.map .tmp)=some xs
 |[],xs,h=>by obtain rfl:=inS h;rfl
 |t::l,xs,h=>by
  unfold nF at h
  split at h
  ·rename_i h1 h2
   obtain rfl:=inS h
   show(match env.get t,bO env (l.map .tmp) with|some y,some ys=>some (y::ys)|_,_=>none)=_
   rw[h1,mN h2]
  ·cases h
def exC(P:Program)[PC P](t:Ty)(nt:Nat)(call:bH)(yld:nG)(top:Bool)(hook:fZ):Nat→Code→Env→List AO→Option (Exit×Env×List AO)
 |0,_,_,_=>none
 |n+1,c,env,st=>match c with
  | .skip=>some (.normal,env,st)
  | .ret=>some (.ret,env,st)
  | .exit i=>some (.exit i,env,st)
  | .seq x y=>(match exC P t nt call yld top hook n x env st with
   |some (.normal,env',st')=>exC P t nt call yld top hook n y env' st'
   |some (.ret,env',st')=>some (.ret,env',st')
   |some (.exit i,env',st')=>some (.exit i,env',st')
   |_=>none)
  | .block i x=>(match exC P t nt call yld top hook n x env st with
   |some (.normal,env',st')=>some (.normal,env',st')
   |some (.ret,env',st')=>some (.ret,env',st')
   |some (.exit j,env',st')=>bif Nat.beq j i then some (.normal,env',st') else some (.exit j,env',st')
   |_=>none)
  | .cond b x y=>(match(opv env b).bind ri with
   |some true=>exC P t nt call yld top hook n x env st
   |some false=>exC P t nt call yld top hook n y env st
   |none=>none)
  | .region _ a false=>bif bn a.toList then(match exL P t nt call yld hook a a.toList env st with
   |some (env',st')=>some (.normal,env',st')
   |none=>none) else none
  | .region _ a true=>(match exA P t nt call a.toList env st with
   |some (env',st')=>some (.normal,env',st')
   |none=>none)
  | .loop x=>(match exC P t nt call yld top hook n x env st with
   |some (.normal,env',st')=>exC P t nt call yld top hook n (.loop x) env' st'
   |some (.ret,env',st')=>some (.ret,env',st')
   |some (.exit i,env',st')=>some (.exit i,env',st')
   |_=>none)
  | .rangeFunc g ps asg body=>bif top then(match opv env g,nF env (env.map (·.1)) with
   |some (.fn (.func f) first caps),some vs=>(match call f (first++ .yl st.length::caps) (st++ [.lp ⟨nt,env.map (·.1),ps.toList,asg,body⟩ vs .ready none]) with
    |some (_,st')=>(match st'[st.length]? with
     |some (.lp _ _ .ready none)=>some (.normal,env,st'.set st.length .dead)
     |some (.lp _ _ .done (some .ret))=>some (.ret,env,st'.set st.length .dead)
     |some (.lp _ _ .done (some (.exit i)))=>some (.exit i,env,st'.set st.length .dead)
     |_=>none)
    |none=>none)
   |_,_=>none) else none
  |_=>none
section
variable{P:Program}[PC P]{t:Ty}{nt:Nat}{call:bH}{yld:nG}{top:Bool}{hook:fZ}{e:En}
theorem iu(ht:t.ok P=true)(hc:cw P call)(hyl:o9 P yld)(htop:top=true→e.rd=none∧e.ds=none)(hh:jS hook)(hn:e.n=nt):∀(n:Nat),
  (∀(c:Code)(env env':Env)(st st':List AO)(x:Exit)(κ:Ko),exC P t nt call yld top hook n c env st=some (x,env',st')→WE P e x κ env' st'→WC P e c κ env st)∧
  (∀(c:Code)(env env':Env)(st st':List AO)(x:Exit)(κ:Ko),exC P t nt call yld top hook n (.loop c) env st=some (x,env',st')→WE P e x κ env' st'→∃m,n=m+1∧WC P e c (.rl m c κ) env st)
 |0=>⟨λ_ _ _ _ _ _ _ h=>(by cases h),λ_ _ _ _ _ _ _ h=>(by cases h)⟩
 |n+1=>by
  obtain⟨iA,iB⟩:=iu ht hc hyl htop hh hn n
  have hB:∀(c:Code)(env env':Env)(st st':List AO)(x:Exit)(κ:Ko),exC P t nt call yld top hook (n+1) (.loop c) env st=some (x,env',st')→WE P e x κ env' st'→∃m,n+1=m+1∧WC P e c (.rl m c κ) env st:=by
   intro c env env' st st' x κ h k
   refine⟨n,rfl,?_⟩
   dsimp only[exC] at h
   split at h
   ·rename_i hx
    obtain⟨m,hm,hw⟩:=iB _ _ _ _ _ _ _ h k
    subst hm
    exact iA _ _ _ _ _ _ _ hx (iF hw)
   ·rename_i hx
    simp only[ak,Prod.mk.injEq] at h
    obtain⟨rfl,rfl,rfl⟩:=h
    exact iA _ _ _ _ _ _ _ hx (cR k)
   ·rename_i hx
    simp only[ak,Prod.mk.injEq] at h
    obtain⟨rfl,rfl,rfl⟩:=h
    exact iA _ _ _ _ _ _ _ hx (kO k)
   ·cases h
  refine⟨?_,hB⟩
  intro c env env' st st' x κ h k
  cases c with
  |loop c=>
   obtain⟨m,_,hw⟩:=hB _ _ _ _ _ _ _ h k
   exact mn m hw
  |skip=>
   dsimp only[exC] at h
   simp only[ak,Prod.mk.injEq] at h
   obtain⟨rfl,rfl,rfl⟩:=h
   exact qj k
  |ret=>
   dsimp only[exC] at h
   simp only[ak,Prod.mk.injEq] at h
   obtain⟨rfl,rfl,rfl⟩:=h
   exact sU k
  |exit i=>
   dsimp only[exC] at h
   simp only[ak,Prod.mk.injEq] at h
   obtain⟨rfl,rfl,rfl⟩:=h
   exact qk k
  |seq a b=>
   dsimp only[exC] at h
   split at h
   ·rename_i hx
    exact mW (iA _ _ _ _ _ _ _ hx (pA (iA _ _ _ _ _ _ _ h k)))
   ·rename_i hx
    simp only[ak,Prod.mk.injEq] at h
    obtain⟨rfl,rfl,rfl⟩:=h
    exact mW (iA _ _ _ _ _ _ _ hx (kN k))
   ·rename_i hx
    simp only[ak,Prod.mk.injEq] at h
    obtain⟨rfl,rfl,rfl⟩:=h
    exact mW (iA _ _ _ _ _ _ _ hx (jU k))
   ·cases h
  |block i a=>
   dsimp only[exC] at h
   split at h
   ·rename_i hx
    simp only[ak,Prod.mk.injEq] at h
    obtain⟨rfl,rfl,rfl⟩:=h
    exact ge (iA _ _ _ _ _ _ _ hx (sT k))
   ·rename_i hx
    simp only[ak,Prod.mk.injEq] at h
    obtain⟨rfl,rfl,rfl⟩:=h
    exact ge (iA _ _ _ _ _ _ _ hx (kP k))
   ·rename_i j _ _ hx
    cases hb:Nat.beq j i with
    |true=>
     rw[hb] at h
     simp only[cdT,ak,Prod.mk.injEq] at h
     obtain⟨rfl,rfl,rfl⟩:=h
     have:=nbE hb
     subst this
     exact ge (iA _ _ _ _ _ _ _ hx (kQ k))
    |false=>
     rw[hb] at h
     simp only[cdF,ak,Prod.mk.injEq] at h
     obtain⟨rfl,rfl,rfl⟩:=h
     exact ge (iA _ _ _ _ _ _ _ hx (jX hb k))
   ·cases h
  |cond b x y=>
   dsimp only[exC] at h
   split at h
   ·rename_i hb
    obtain⟨z,h1,h2⟩:=bC hb
    rw[jc h2] at h1
    exact eP h1 (λ_=>iA _ _ _ _ _ _ _ h k) (λh=>by cases h)
   ·rename_i hb
    obtain⟨z,h1,h2⟩:=bC hb
    rw[jc h2] at h1
    exact eP h1 (λh=>by cases h) (λ_=>iA _ _ _ _ _ _ _ h k)
   ·cases h
  |region id a b=>
   cases b with
   |false=>
    dsimp only[exC] at h
    obtain⟨hd,h⟩:=cz h
    split at h
    ·rename_i hx
     simp only[ak,Prod.mk.injEq] at h
     obtain⟨rfl,rfl,rfl⟩:=h
     exact mo (l:=a.toList) (pV ht hc hyl hh hn hx k) hd
    ·cases h
   |true=>
    dsimp only[exC] at h
    split at h
    ·rename_i hx
     simp only[ak,Prod.mk.injEq] at h
     obtain⟨rfl,rfl,rfl⟩:=h
     exact yw (l:=a.toList) ht hc hn hx k
    ·cases h
  |rangeFunc g ps asg body=>
   dsimp only[exC] at h
   obtain⟨htp,h⟩:=cz h
   obtain⟨hrd,hds⟩:=htop htp
   split at h
   ·rename_i f first caps vs hg hvs
    split at h
    ·rename_i r1 st1 hx
     have hctr:=hc _ _ _ _ _ hx
     rw[←hn] at hctr
     refine mq (env.map (·.1)) _ hrd hg (mN hvs) hctr (λr' s' hq=>?_) hds
     obtain⟨rfl,rfl⟩:=hq
     split at h
     ·rename_i hl
      simp only[ak,Prod.mk.injEq] at h
      obtain⟨rfl,rfl,rfl⟩:=h
      exact⟨_,_,_,_,_,SLe.refl _,hl,sM,k⟩
     ·rename_i hl
      simp only[ak,Prod.mk.injEq] at h
      obtain⟨rfl,rfl,rfl⟩:=h
      exact⟨_,_,_,_,_,SLe.refl _,hl,sM,k⟩
     ·rename_i hl
      simp only[ak,Prod.mk.injEq] at h
      obtain⟨rfl,rfl,rfl⟩:=h
      exact⟨_,_,_,_,_,SLe.refl _,hl,sM,k⟩
     ·cases h
    ·cases h
   ·cases h
  |_=>cases h
end
def tx:nG:=λ_ _ _=>none
theorem iR{P:Program}:o9 P tx:=λ_ _ _ _ _ h=>by cases h
def xq(P:Program)[PC P](t:Ty)(call:bH)(hook:fZ)(fuel:Nat):nG:=λid asz st=>match st[id]? with
 |some (.lp s vs .ready _)=>bif Nat.beq asz.length s.ps.length&&(fH s.ps&&((s.ps.all λp=>Nat.blt p s.n)&&Nat.beq s.ts.length vs.length)) then
   (match exC P t s.n call tx false hook fuel s.asg (List.zip s.ps asz++List.zip s.ts vs) st with
   |some (.normal,env1,st1)=>(match st1[id]? with
    |some (.lp s1 vs1 .ready pd1)=>(match exC P t s.n call tx false hook fuel s.body env1 (st1.set id (.lp s1 vs1 .busy pd1)) with
     |some (.normal,_,st2)=>(match st2[id]? with
      |some (.lp s2 vs2 .busy _)=>some (.d (.v (.bool true)),st2.set id (.lp s2 vs2 .ready none))
      |_=>none)
     |some (.ret,_,st2)=>(match st2[id]? with
      |some (.lp s2 vs2 .busy _)=>some (.d (.v (.bool false)),st2.set id (.lp s2 vs2 .done (some .ret)))
      |_=>none)
     |some (.exit i,_,st2)=>(match st2[id]? with
      |some (.lp s2 vs2 .busy _)=>some (.d (.v (.bool false)),st2.set id (.lp s2 vs2 .done (some (.exit i))))
      |_=>none)
     |_=>none)
    |_=>none)
   |_=>none) else none
 |_=>none
theorem qc{P:Program}[PC P]{t:Ty}{call:bH}{hook:fZ}{fuel:Nat}(ht:t.ok P=true)(hc:cw P call)(hh:jS hook):o9 P (xq P t call hook fuel):=by
 intro id asz st r st' h e ops rest o env R c x d hop hx hf has hw ho hd k
 unfold xq at h
 split at h
 ·rename_i s vs pd hs
  obtain⟨hq,h⟩:=cz h
  simp only[Bool.and_eq_true] at hq
  obtain⟨q1,q2,q3,q4⟩:=hq
  refine mO (λr' s'=>r'=r∧s'=st') hop hx hf has hs q1 q2 q3 q4 (λe' hn' hrd' _=>?_) hw ho hd (λr' s' hq=>by obtain⟨rfl,rfl⟩:=hq;exact k)
  have hT:∀{b:Bool},(b=false)→b=true→e'.rd=none∧e'.ds=none:=λh1 h2=>by rw[h1] at h2;cases h2
  split at h
  ·rename_i env1 st1 hx1
   split at h
   ·rename_i s1 vs1 pd1 hs1
    refine(iu ht hc iR (hT rfl) hh hn' fuel).1 _ _ _ _ _ _ _ hx1 (gd hrd' hs1 ?_)
    split at h
    ·rename_i env2 st2 hx2
     split at h
     ·rename_i hs2
      simp only[ak,Prod.mk.injEq] at h
      obtain⟨rfl,rfl⟩:=h
      exact(iu ht hc iR (hT rfl) hh hn' fuel).1 _ _ _ _ _ _ _ hx2 (eO hrd' hs2 ⟨rfl,rfl⟩)
     ·cases h
    ·rename_i env2 st2 hx2
     split at h
     ·rename_i hs2
      simp only[ak,Prod.mk.injEq] at h
      obtain⟨rfl,rfl⟩:=h
      exact(iu ht hc iR (hT rfl) hh hn' fuel).1 _ _ _ _ _ _ _ hx2 (cH hrd' hs2 ⟨rfl,rfl⟩)
     ·cases h
    ·rename_i env2 st2 hx2
     split at h
     ·rename_i hs2
      simp only[ak,Prod.mk.injEq] at h
      obtain⟨rfl,rfl⟩:=h
      exact(iu ht hc iR (hT rfl) hh hn' fuel).1 _ _ _ _ _ _ _ hx2 (mV hrd' hs2 ⟨rfl,rfl⟩)
     ·cases h
    ·cases h
   ·cases h
  ·cases h
 ·cases h
def rvX(P:Program)(env:Env)(st:List AO):ResultVar→Option AV
 | .tmp t=>env.get t
 | .cell p T=>match env.get p with
  |some (.pt id off)=>(match st[id]? with
   |some (.row _ cs)=>(match aV P T,bc P T with
    |some false,_=>cs[off]?
    |some true,some n=>bif Nat.ble (off+n) cs.length then some (.ag ((cs.drop off).take n)) else none
    |_,_=>none)
   |_=>none)
  |_=>none
def vh(P:Program)(env:Env)(st:List AO):List ResultVar→Option AV
 |[]=>some (.tu [])
 |[v]=>rvX P env st v
 |[v,u]=>match rvX P env st v,rvX P env st u with
  |some r,some s=>some (.tu [r,s])
  |_,_=>none
 |[v,u,z]=>match rvX P env st v,rvX P env st u,rvX P env st z with
  |some r,some s,some q=>some (.tu [r,s,q])
  |_,_,_=>none
 |_=>none
section
variable{P:Program}{env:Env}{st:List AO}
theorem jw{v:ResultVar}{r:AV}(h:rvX P env st v=some r):RV1 P env st v r:=by
 cases v with
 |tmp t=>exact bv h
 |cell p T=>
  dsimp only[rvX] at h
  split at h
  ·rename_i hp
   split at h
   ·rename_i hs
    split at h
    ·rename_i ha;exact mf hp hs ha h
    ·rename_i ha hn
     obtain⟨hb,h⟩:=cz h
     obtain rfl:=inS h
     exact cX hp hs ha hn hb
    ·cases h
   ·cases h
  ·cases h
theorem qz{fn:Func}{r:AV}(h:vh P env st fn.results.toList=some r):Res P fn env st r:=by
 have hl:∀L,fn.results.toList=L→fn.results=L.toArray:=λL hL=>by rw[←hL]
 unfold vh at h
 split at h
 ·rename_i hL
  obtain rfl:=inS h
  exact eg (hl _ hL)
 ·rename_i hL
  exact rs1 (hl _ hL) (jw h)
 ·rename_i hL
  split at h
  ·rename_i h1 h2
   obtain rfl:=inS h
   exact rs2 (hl _ hL) (jw h1) (jw h2)
  ·cases h
 ·rename_i hL
  split at h
  ·rename_i h1 h2 h3
   obtain rfl:=inS h
   exact rs3 (hl _ hL) (jw h1) (jw h2) (jw h3)
  ·cases h
 ·cases h
end
def yt(P:Program)[PC P](t:Ty)(call:bH)(hook:fZ)(fuel:Nat)(fn:Func)(asz:List AV)(st:List AO):Option (AV×List AO):=
 match fn.body with
 |some c=>bif !(fn.name== "runtime.NumGoroutine")&&Nat.ble asz.length fn.ntmps then(match exC P t fn.ntmps call (xq P t call hook fuel) true hook fuel c (fx 0 asz) st with
  |some (.ret,env',st')=>(match vh P env' st' fn.results.toList with
   |some r=>some (r,st')
   |none=>none)
  |some (.normal,env',st')=>(match vh P env' st' fn.results.toList with
   |some r=>some (r,st')
   |none=>none)
  |_=>none) else none
 |none=>none
def bmax(a b:Nat):Nat:=bif Nat.ble a b then b else a
mutual
def AV.ids(n:Nat):AV→List Nat
 | .ag ps=>AV.idss n ps
 | .pt id _=>bif Nat.ble n id then[id] else[]
 | .sr id _ _ _=>bif Nat.ble n id then[id] else[]
 | .fn _ a b=>AV.idss n a++AV.idss n b
 | .mp id=>bif Nat.ble n id then[id] else[]
 | .tu l=>AV.idss n l
 | .os id _=>bif Nat.ble n id then[id] else[]
 | .pe id _ _=>bif Nat.ble n id then[id] else[]
 | .ow id _ _ _ _=>bif Nat.ble n id then[id] else[]
 | .ifc _ x=>x.ids n
 | .osf id _ _=>bif Nat.ble n id then[id] else[]
 | .pem id _ _ _=>bif Nat.ble n id then[id] else[]
 | .yl id=>bif Nat.ble n id then[id] else[]
 |_=> []
def AV.idss(n:Nat):List AV→List Nat
 |[]=> []
 |x::xs=>x.ids n++AV.idss n xs
end
def idq(n:Nat)(x:AV)(acc:List Nat):List Nat:=match x with
 | .d _=>acc
 | .os id _=>bif Nat.ble n id then id::acc else acc
 | .pt id _=>bif Nat.ble n id then id::acc else acc
 | .pe id _ _=>bif Nat.ble n id then id::acc else acc
 | .mp id=>bif Nat.ble n id then id::acc else acc
 |x=>x.ids n++acc
def wg(n:Nat):List AV→List Nat→List Nat
 |[],acc=>acc
 |x::l,acc=>wg n l (idq n x acc)
def xf(n:Nat):List (List AV)→List Nat→List Nat
 |[],acc=>acc
 |e::l,acc=>xf n l (wg n e acc)
def AO.ids(n:Nat):AO→List Nat
 | .row _ cs=>wg n cs []
 | .os _ _ _ es=>xf n es []
 | .mp es=>AV.idss n (es.map (·.2))
 | .mb _ xs _=>wg n xs []
 | .it src _ _ _=>src.ids n
 | .fam _ _ _ ess=>AV.idss n ess.flatten.flatten
 | .lp _ vs _ _=>AV.idss n vs
 |_=> []
def yg(n:Nat):List AO→List Nat
 |[]=> []
 |o::l=>o.ids n++yg n l
def ltq(n:Nat)(x:AV):Bool:=match x with
 | .d _=>true
 | .os id _=>Nat.ble (id+1) n
 | .pt id _=>Nat.ble (id+1) n
 | .pe id _ _=>Nat.ble (id+1) n
 | .mp id=>Nat.ble (id+1) n
 |x=>x.lt n
theorem xU{n:Nat}{x:AV}(h:ltq n x=true):x.lt n=true:=by
 unfold ltq at h
 split at h<;>first|exact h|(simp only[AV.lt];done)|(simp only[AV.lt];exact h)
def pP(n:Nat):List AV→Bool
 |[]=>true
 |x::l=>bif ltq n x then pP n l else false
theorem ky{n:Nat}:∀{l:List AV},pP n l=true→AV.lts n l=true
 |[],_=>rfl
 |x::l,h=>by
  unfold pP at h
  cases hb:ltq n x with
  |true=>rw[hb,cdT] at h;simp only[AV.lts,Bool.and_eq_true];exact⟨xU hb,ky h⟩
  |false=>rw[hb] at h;cases h
def qK(n:Nat):List (List AV)→Bool
 |[]=>true
 |e::l=>bif pP n e then qK n l else false
theorem oD{n:Nat}:∀{l:List (List AV)},qK n l=true→AV.lts n l.flatten=true
 |[],_=>rfl
 |e::l,h=>by
  unfold qK at h
  cases hb:pP n e with
  |true=>rw[hb,cdT] at h;rw[List.flatten_cons,vX,ky hb,oD h];rfl
  |false=>rw[hb] at h;cases h
def vq(n:Nat)(o:AO):Bool:=match o with
 | .row _ cs=>pP n cs
 | .os _ _ _ es=>qK n es
 | .mb _ xs _=>pP n xs
 |o=>o.lt n
theorem vp{n:Nat}{o:AO}(h:vq n o=true):o.lt n=true:=by
 unfold vq at h
 split at h
 ·exact ky h
 ·exact oD h
 ·exact ky h
 ·exact h
def qt(n:Nat):List AO→Bool
 |[]=>true
 |o::l=>bif vq n o then qt n l else false
theorem oc{n:Nat}:∀{l:List AO},qt n l=true→dG n l=true
 |[],_=>rfl
 |o::l,h=>by
  unfold qt at h
  cases hb:vq n o with
  |true=>rw[hb,cdT] at h;simp only[dG,Bool.and_eq_true];exact⟨vp hb,oc h⟩
  |false=>rw[hb] at h;cases h
def mZ(n:Nat)(r:AV)(st:List AO):Bool:=r.lt n&&qt n st
def ne(n:Nat)(st:List AO):Nat→List Nat→List Nat→List Nat
 |0,_,seen=>seen
 |_+1,[],seen=>seen
 |k+1,x::todo,seen=>bif seen.contains x then ne n st k todo seen else ne n st k ((match st[x]? with
  |some o=>o.ids n
  |none=> [])++todo) (x::seen)
def sA(ks:List Nat):Nat→Nat→List AO→List AO
 |_,_,[]=> []
 |n,i,o::l=>(bif Nat.blt i n||ks.contains i then o else .dead)::sA ks n (i+1) l
theorem qb{ks:List Nat}{n:Nat}:∀{l:List AO}{i:Nat},SLe l (sA ks n i l)
 |[],_=>trivial
 |o::l,i=>by
  refine⟨?_,qb⟩
  cases (Nat.blt i n||ks.contains i) with
  |true=>exact OLe.refl o
  |false=>exact trivial
def oz:Nat→List Nat→Nat
 |m,[]=>m
 |m,x::l=>oz (bmax m (x+1)) l
def w5(n0:Nat)(ks:List Nat)(r:AV)(st:List AO):List AO:=bif Nat.ble n0 (oz n0 ks)&&mZ (oz n0 ks) r (sA ks n0 0 (st.take (oz n0 ks))) then sA ks n0 0 (st.take (oz n0 ks)) else st
def n9(n0:Nat)(r:AV)(st:List AO):List AO:=
 bif Nat.ble st.length n0 then st else w5 n0 (ne n0 st 1000 (r.ids n0++yg n0 (st.take n0)) []) r st
theorem vd{m m':List Cz}{φ φ':Nat→Nat}{w w':World}{st st':List AO}{r:AV}{v:Value}{n:Nat}(hl:m.length=st.length)(hev:Ev m φ w m' φ' w')(hsr:SR m' φ' st' w')(hra:RA m' φ' w' r v)(hn:st.length≤n){st1:List AO}(hz:SLe (st'.take n) st1)(ht:mZ n r st1=true):
  ∃m'',Ev m φ w m'' φ' w'∧SR m'' φ' st1 w'∧RA m'' φ' w' r v:=by
 unfold mZ at ht
 rw[Bool.and_eq_true] at ht
 have hlen:=hz.length
 have hst1:=oc ht.2
 refine⟨m'.take n,⟨λi c hi=>?_,λb ⟨i,c,h1,h2⟩=>hev.new b ⟨i,c,(bp h1).2,h2⟩,hev.os,hev.tape,hev.output,hev.size,hev.keep,hev.fz⟩,⟨by rw[hlen];simp[hsr.len],λi o c h1 h2=>?_,hsr.lt,λi j o o' c c' b h1 h2 l1 l2 h3 h4=>?_,hsr.gl,λb ⟨i,c,h1,h2⟩=>hsr.nb b ⟨i,c,(bp h1).2,h2⟩⟩,RA.take _ _ ht.1 hra⟩
 ·obtain⟨c',h1,h2⟩:=hev.pre i c hi
  have:i<m.length:=(giS.1 hi).1
  rw[hl] at this
  exact⟨c',cK (Nat.ble_eq_true_of_le (show i+1≤n by omega)) h1,h2⟩
 ·obtain⟨o0,g1,g2⟩:=hz.get h1
  exact((hsr.obj i o0 c (bp g1).2 (bp h2).2).weak g2).take (dV hst1 h1)
 ·obtain⟨o0,g1,g2⟩:=hz.get h1
  obtain⟨o1,g3,g4⟩:=hz.get h2
  exact hsr.inj i j o0 o1 c c' b (bp g1).2 (bp g3).2 (g2.live l1) (g4.live l2) (bp h3).2 (bp h4).2
theorem s8{m m':List Cz}{φ φ':Nat→Nat}{w w':World}{st st':List AO}{r:AV}{v:Value}(hl:m.length=st.length)(hev:Ev m φ w m' φ' w')(hsr:SR m' φ' st' w')(hra:RA m' φ' w' r v):
  ∃m'',Ev m φ w m'' φ' w'∧SR m'' φ' (n9 st.length r st') w'∧RA m'' φ' w' r v:=by
 unfold n9
 cases Nat.ble st'.length st.length with
 |true=>exact⟨m',hev,hsr,hra⟩
 |false=>
  rw[cdF]
  generalize ne st.length st' 1000 (r.ids st.length++yg st.length (st'.take st.length)) []=ks
  unfold w5
  cases h2:(Nat.ble st.length (oz st.length ks)&&mZ (oz st.length ks) r (sA ks st.length 0 (st'.take (oz st.length ks)))) with
  |true=>
   rw[Bool.and_eq_true] at h2
   exact vd hl hev hsr hra (nbT h2.1) qb h2.2
  |false=>exact⟨m',hev,hsr,hra⟩
theorem sq{P:Program}{f:FuncId}{asz:List AV}{st:List AO}{Q:AV→List AO→Prop}(h:Ctr P f asz st Q):Ctr P f asz st (λr s=>∃s0,Q r s0∧s=n9 st.length r s0):=by
 refine⟨h.1,λm φ w vs hs ha=>(h.2 m φ w vs hs ha).mono ?_⟩
 rintro en w' ⟨v,r',s',m',φ',he,hq,hev,hsr,hra⟩
 obtain⟨m'',k1,k2,k3⟩:=s8 (r:=r') hs.len hev hsr hra
 exact⟨v,r',_,m'',φ',he,⟨s',hq,rfl⟩,k1,k2,k3⟩
theorem so{P:Program}{f:FuncId}{asz:List AV}{st st':List AO}{r:AV}(h:Ctr P f asz st λr' s'=>r'=r∧s'=st'):Ctr P f asz st (λr' s'=>r'=r∧s'=n9 st.length r st'):=by
 have:=sq h
 refine⟨this.1,λm φ w vs hs ha=>(this.2 m φ w vs hs ha).mono ?_⟩
 rintro en w' ⟨v,r',s',m',φ',he,⟨s0,⟨rfl,rfl⟩,rfl⟩,k⟩
 exact⟨v,r',_,m',φ',he,⟨rfl,rfl⟩,k⟩
def exF(P:Program)[PC P](t:Ty)(fT:FuncId→Option Func)(kn:bH)(hook:fZ)(fuel:Nat):Nat→bH
 |0=>λ_ _ _=>none
 |n+1=>λf asz st=>match kn f asz st with
  |some r=>some r
  |none=>(match fT f with
   |some fn=>(match yt P t (exF P t fT kn hook fuel n) hook fuel fn asz st with
    |some (r,st')=>some (r,n9 st.length r st')
    |none=>none)
   |none=>none)
section
variable{P:Program}[PC P]{t:Ty}
theorem wu(ht:t.ok P=true){call:bH}(hc:cw P call){hook:fZ}(hh:jS hook){fuel:Nat}{f:FuncId}{fn:Func}(hf:P.funcs[f]? =some fn){asz:List AV}{st st':List AO}{r:AV}(h:yt P t call hook fuel fn asz st=some (r,st')):Ctr P f asz st (λr' s'=>r'=r∧s'=st'):=by
 unfold yt at h
 split at h
 ·rename_i c hb
  obtain⟨hq,h⟩:=cz h
  rw[Bool.and_eq_true,Bool.not_eq_true'] at hq
  refine jL hf hq.1 hb rfl hq.2 λm φ w _=>?_
  split at h
  ·rename_i env1 st1 hx
   split at h
   ·rename_i r1 hr
    simp only[ak,Prod.mk.injEq] at h
    obtain⟨rfl,rfl⟩:=h
    exact(iu (e:=⟨m,φ,w,fn.ntmps,none,none⟩) ht hc (qc ht hc hh) (λ_=>⟨rfl,rfl⟩) hh rfl fuel).1 _ _ _ _ _ _ _ hx (aM (qz hr) ⟨rfl,rfl⟩)
   ·cases h
  ·rename_i env1 st1 hx
   split at h
   ·rename_i r1 hr
    simp only[ak,Prod.mk.injEq] at h
    obtain⟨rfl,rfl⟩:=h
    exact(iu (e:=⟨m,φ,w,fn.ntmps,none,none⟩) ht hc (qc ht hc hh) (λ_=>⟨rfl,rfl⟩) hh rfl fuel).1 _ _ _ _ _ _ _ hx (cJ (aM (qz hr) ⟨rfl,rfl⟩))
   ·cases h
  ·cases h
 ·cases h
theorem uo(ht:t.ok P=true){fT:FuncId→Option Func}(hT:∀f fn,fT f=some fn→P.funcs[f]? =some fn){kn:bH}(hk:cw P kn){hook:fZ}(hh:jS hook){fuel:Nat}:∀n,cw P (exF P t fT kn hook fuel n)
 |0=>λ_ _ _ _ _ h=>by cases h
 |n+1=>λf asz st r st' h=>by
  unfold exF at h
  split at h
  ·rename_i hr
   obtain rfl:=inS h
   exact hk _ _ _ _ _ hr
  ·split at h
   ·rename_i fn hfn
    split at h
    ·rename_i r1 st1 hx
     simp only[ak,Prod.mk.injEq] at h
     obtain⟨rfl,rfl⟩:=h
     exact so (wu ht (uo ht hT hk hh n) hh (hT _ _ hfn) hx)
    ·cases h
   ·cases h
end
mutual
def fzA(id ver:Nat)(y:AV):AV→AV
 | .os i v=>bif Nat.beq i id&&Nat.beq v ver then y else .os i v
 | .ag ps=> .ag (fzAs id ver y ps)
 | .tu ps=> .tu (fzAs id ver y ps)
 | .fn f a b=> .fn f (fzAs id ver y a) (fzAs id ver y b)
 | .ifc t x=> .ifc t (fzA id ver y x)
 |x=>x
def fzAs(id ver:Nat)(y:AV):List AV→List AV
 |[]=> []
 |x::l=>fzA id ver y x::fzAs id ver y l
end
section
variable{m:List Cz}{φ:Nat→Nat}{w:World}{id ver:Nat}{y:AV}{yv:Value}(hm:m[id]? =some (.tok ver yv))(hy:RA m φ w y yv)
include hm hy
mutual
theorem uU:∀(x:AV)(v:Value),RA m φ w x v→RA m φ w (fzA id ver y x) v
 | .os i u,v,h=>by
  rw[fzA]
  cases hb:Nat.beq i id&&Nat.beq u ver with
  |false=>exact h
  |true=>
   rw[Bool.and_eq_true] at hb
   have e1:=nbE hb.1
   have e2:=nbE hb.2
   subst e1 e2
   simp only[RA] at h
   obtain⟨v0,y0,h1,_,h3⟩:=h
   rw[hm] at h1
   simp only[ak,Cz.tok.injEq] at h1
   obtain⟨rfl,rfl⟩:=h1
   rw[h3 rfl]
   exact hy
 | .ag ps,v,h=>by
  rw[fzA]
  simp only[RA] at h⊢
  obtain⟨cs,h1,h2⟩:=h
  exact⟨cs,h1,RAs_fz ps cs h2⟩
 | .tu ps,v,h=>by
  rw[fzA]
  simp only[RA] at h⊢
  obtain⟨cs,h1,h2⟩:=h
  exact⟨cs,h1,RAs_fz ps cs h2⟩
 | .fn f a b,v,h=>by
  rw[fzA]
  simp only[RA] at h⊢
  obtain⟨fs,cs,h1,h2,h3⟩:=h
  exact⟨fs,cs,h1,RAs_fz a fs h2,RAs_fz b cs h3⟩
 | .ifc t x,v,h=>by
  rw[fzA]
  simp only[RA] at h⊢
  obtain⟨z,h1,h2⟩:=h
  exact⟨z,h1,uU x z h2⟩
 | .u,v,h=>h
 | .d _,v,h=>h
 | .pt _ _,v,h=>h
 | .sr _ _ _ _,v,h=>h
 | .mp _,v,h=>h
 | .pe _ _ _,v,h=>h
 | .ow _ _ _ _ _,v,h=>h
 | .fs _,v,h=>h
 | .osf _ _ _,v,h=>h
 | .pem _ _ _ _,v,h=>h
 | .yl _,v,h=>h
theorem RAs_fz:∀(xs:List AV)(vs:List Value),RAs m φ w xs vs→RAs m φ w (fzAs id ver y xs) vs
 |[],vs,h=>h
 |x::xs,vs,h=>by
  rw[fzAs]
  simp only[RAs] at h⊢
  obtain⟨c,cs,h1,h2,h3⟩:=h
  exact⟨c,cs,h1,uU x c h2,RAs_fz xs cs h3⟩
end
end
theorem gz(id ver:Nat)(y:AV):∀xs:List AV,fzAs id ver y xs=xs.map (fzA id ver y)
 |[]=>rfl
 |x::xs=>by rw[fzAs,gz id ver y xs,List.map_cons]
def fzO(id ver:Nat)(y:AV):AO→AO
 | .row T cs=> .row T (fzAs id ver y cs)
 | .os T k v es=> .os T k v (es.map (fzAs id ver y))
 |o=>o
theorem qV(id ver:Nat)(y:AV):∀es:List (List AV),(es.map (fzAs id ver y)).flatten=fzAs id ver y es.flatten
 |[]=>rfl
 |e::es=>by
  rw[List.map_cons,List.flatten_cons,List.flatten_cons,qV id ver y es,gz,gz,gz,List.map_append]
theorem OR_fz{m:List Cz}{φ:Nat→Nat}{w:World}{id ver:Nat}{y:AV}{yv:Value}(hm:m[id]? =some (.tok ver yv))(hy:RA m φ w y yv){o:AO}{c:Cz}(h:OR m φ w o c):OR m φ w (fzO id ver y o) c:=by
 cases o with
 |row T cs=>
  simp only[fzO,OR] at h⊢
  obtain⟨b,h1,h2,vs,h3,h4⟩:=h
  exact⟨b,h1,h2,vs,h3,RAs_fz hm hy _ _ h4⟩
 |os T k v es=>
  simp only[fzO,OR] at h⊢
  obtain⟨z,xs,h1,h2,h3,h4,h5⟩:=h
  refine⟨z,xs,h1,by rw[List.length_map];exact h2,by rw[qV];exact RAs_fz hm hy _ _ h3,λe he=>?_,h5⟩
  obtain⟨e',he',rfl⟩:=List.mem_map.1 he
  rw[gz,List.length_map]
  exact h4 e' he'
 |_=>exact h
theorem uh(id ver:Nat)(y:AV)(o:AO):(fzO id ver y o).live=o.live:=by cases o<;>rfl
theorem SR_fz{m:List Cz}{φ:Nat→Nat}{w:World}{st:List AO}{id ver:Nat}{y:AV}{yv:Value}(hm:m[id]? =some (.tok ver yv))(hy:RA m φ w y yv)(h:SR m φ st w):SR m φ (st.map (fzO id ver y)) w:=by
 refine⟨by rw[List.length_map];exact h.len,λi o c ho hc=>?_,h.lt,λi j o o' c c' b ho ho' hl hl' hc hc' hb hb'=>?_,h.gl,h.nb⟩
 ·rw[List.getElem?_map,Option.map_eq_some_iff] at ho
  obtain⟨o0,h0,rfl⟩:=ho
  exact OR_fz hm hy (h.obj i o0 c h0 hc)
 ·rw[List.getElem?_map,Option.map_eq_some_iff] at ho ho'
  obtain⟨o0,h0,rfl⟩:=ho
  obtain⟨o1,h1,rfl⟩:=ho'
  rw[uh] at hl hl'
  exact h.inj i j o0 o1 c c' b h0 h1 hl hl' hc hc' hb hb'
def fzE(id ver:Nat)(y:AV)(env:Env):Env:=env.map λp=>(p.1,fzA id ver y p.2)
theorem qW{id ver:Nat}{y:AV}:∀{env:Env}{t:Nat}{x:AV},(fzE id ver y env).get t=some x→∃x0,env.get t=some x0∧x=fzA id ver y x0
 |[],t,x,h=>by cases h
 |(k,v)::env,t,x,h=>by
  have h:(bif Nat.beq t k then some (fzA id ver y v) else Env.get (fzE id ver y env) t)=some x:=h
  show∃x0,(bif Nat.beq t k then some v else Env.get env t)=some x0∧_
  cases hb:Nat.beq t k with
  |true=>rw[hb] at h;exact⟨v,rfl,(inS h).symm⟩
  |false=>rw[hb] at h;exact qW h
theorem gh_fz{e:En}{env:Env}{st:List AO}{id ver T k:Nat}{ds:List (List D)}(hs:st[id]? =some (.os T k ver (ds.map λe=>e.map AV.d))):
  Gh e env st (fzE id ver (.d (.sl ds)) env) ((st.set id .dead).map (fzO id ver (.d (.sl ds)))):=λm φ a w hi=>by
 obtain⟨c,hcm⟩:∃c,m[id]? =some c:=by
  have:id<m.length:=by rw[hi.sr.len];exact(giS.1 hs).1
  exact⟨_,geG this⟩
 obtain⟨yv,xs,rfl,_⟩:=hi.sr.obj id _ _ hs hcm
 obtain⟨φ',f1,f2,f3⟩:=jH hi.sr hs hcm
 have h3:=hi.go f1 f2
 have hy:RA m φ' w (.d (.sl ds)) yv:=by simpa[RA] using f3
 refine⟨m,φ',SR_fz hcm hy h3.sr,h3.ev,⟨λt x hx=>?_,h3.env.gl⟩,h3.sz,h3.df⟩
 obtain⟨x0,g1,rfl⟩:=qW hx
 obtain⟨v,q1,q2⟩:=h3.env.get t x0 g1
 exact⟨v,q1,uU hcm hy _ _ q2⟩
def unD:AV→Option D
 | .d (.v (.slice none 0 0))=>some (.sl [])
 | .d x=>some x
 |_=>none
def vb:List AV→Option (List D)
 |[]=>some []
 |x::l=>match unD x,vb l with
  |some d,some ds=>some (d::ds)
  |_,_=>none
def qq:List (List AV)→Option (List (List D))
 |[]=>some []
 |x::l=>match vb x,qq l with
  |some d,some ds=>some (d::ds)
  |_,_=>none
theorem xB{x:AV}{d:D}(h:unD x=some d):Le x (.d d):=by
 unfold unD at h
 split at h
 ·obtain rfl:=inS h;exact Le.nil
 ·obtain rfl:=inS h;exact Le.refl _
 ·cases h
theorem qr:∀{xs:List AV}{ds:List D},vb xs=some ds→Les xs (ds.map .d)
 |[],ds,h=>by obtain rfl:=inS h;exact Les.refl _
 |x::xs,ds,h=>by
  unfold vb at h
  split at h
  ·rename_i h1 h2
   obtain rfl:=inS h
   exact⟨xB h1,qr h2⟩
  ·cases h
theorem n8:∀{es:List (List AV)}{ds:List (List D)},qq es=some ds→Les es.flatten (ds.map λe=>e.map AV.d).flatten∧es.length=ds.length∧∀k,(∀e∈es,e.length=k)→∀e∈ds.map λe=>e.map AV.d,e.length=k
 |[],ds,h=>by obtain rfl:=inS h;exact⟨Les.refl _,rfl,λk _ e he=>by cases he⟩
 |x::es,ds,h=>by
  unfold qq at h
  split at h
  ·rename_i d ds' h1 h2
   obtain rfl:=inS h
   obtain⟨q1,q2,q3⟩:=n8 h2
   have hx:=qr h1
   refine⟨by rw[List.flatten_cons,List.map_cons,List.flatten_cons];exact Les.app hx q1,by simp[q2],λk hk e he=>?_⟩
   rw[List.map_cons] at he
   rcases List.mem_cons.1 he with rfl|he
   ·have:=Les.len hx
    rw[←this];exact hk x List.mem_cons_self
   ·exact q3 k (λe he=>hk e (List.mem_cons_of_mem _ he)) e he
  ·cases h
theorem se{e:En}{env:Env}{st:List AO}{id ver T k:Nat}{es es':List (List AV)}(hs:st[id]? =some (.os T k ver es))(h:Les es.flatten es'.flatten)(hl:es.length=es'.length)(hk:∀k,(∀e∈es,e.length=k)→∀e∈es',e.length=k):
  Gh e env st env (st.set id (.os T k ver es')):=λm φ a w hi=>by
 refine⟨m,φ,⟨⟨by rw[List.length_set];exact hi.sr.len,λi o c ho hc=>?_,hi.sr.lt,λi j o o' c c' b ho ho' hl1 hl2 hc hc' hb hb'=>?_,hi.sr.gl,hi.sr.nb⟩,hi.ev,hi.env,hi.sz,hi.df⟩⟩
 ·by_cases hid:id=i
  ·subst hid
   rw[List.getElem?_set_self (giS.1 hs).1] at ho
   obtain rfl:=inS ho
   have h0:=hi.sr.obj id _ c hs hc
   simp only[OR] at h0⊢
   obtain⟨z,xs,h1,h2,h3,h4,h5⟩:=h0
   exact⟨z,xs,h1,by rw[←hl];exact h2,h.ras h3,hk _ h4,h5⟩
  ·rw[List.getElem?_set_ne hid] at ho
   exact hi.sr.obj i o c ho hc
 ·have key:∀(i:Nat)(o:AO),(st.set id (.os T k ver es'))[i]? =some o→o.live=true→∃o0:AO,st[i]? =some o0∧o0.live=true:=λi o ho hl=>by
   by_cases hid:id=i
   ·subst hid;exact⟨_,hs,rfl⟩
   ·rw[List.getElem?_set_ne hid] at ho;exact⟨o,ho,hl⟩
  obtain⟨o0,g0,l0⟩:=key i o ho hl1
  obtain⟨o1,g1,l1⟩:=key j o' ho' hl2
  exact hi.sr.inj i j o0 o1 c c' b g0 g1 l0 l1 hc hc' hb hb'
theorem Gh.trans{e:En}{env env' env'':Env}{st st' st'':List AO}(h:Gh e env st env' st')(k:Gh e env' st' env'' st''):Gh e env st env'' st'':=λm φ a w hi=>by
 obtain⟨m',φ',h1⟩:=h m φ a w hi
 exact k m' φ' a w h1
theorem Gh.refl{e:En}{env:Env}{st:List AO}:Gh e env st env st:=λm φ _ _ hi=>⟨m,φ,hi⟩
def yn(id:Nat)(env:Env)(st:List AO):Option (Env×List AO):=match st[id]? with
 |some (.os _ _ ver es)=>(match qq es with
  |some ds=>some (fzE id ver (.d (.sl ds)) env,(st.set id .dead).map (fzO id ver (.d (.sl ds))))
  |none=>none)
 |_=>none
theorem wq{e:En}{id:Nat}{env env':Env}{st st':List AO}(h:yn id env st=some (env',st')):Gh e env st env' st':=by
 unfold yn at h
 split at h
 ·rename_i T k ver es hs
  split at h
  ·rename_i ds hd
   simp only[ak,Prod.mk.injEq] at h
   obtain⟨rfl,rfl⟩:=h
   obtain⟨q1,q2,q3⟩:=n8 hd
   refine(se hs q1 (by rw[List.length_map];exact q2) q3).trans ?_
   have hlt:=(giS.1 hs).1
   have:=gh_fz (e:=e) (env:=env) (st:=st.set id (.os T k ver (ds.map λe=>e.map AV.d))) (id:=id) (ds:=ds) (List.getElem?_set_self hlt)
   rw[List.set_set] at this
   exact this
  ·cases h
 ·cases h
mutual
def yh(st:List AO):Nat→AV→List Nat
 |0,_=> []
 |n+1,x=>match x with
  | .os id _=>(match st[id]? with
   |some (.os _ _ _ es)=>idsL st n es.flatten++ [id]
   |_=> [])
  | .ag ps=>idsL st n ps
  | .tu ps=>idsL st n ps
  | .fn _ a b=>idsL st n a++idsL st n b
  | .ifc _ y=>yh st n y
  |_=> []
def idsL(st:List AO):Nat→List AV→List Nat
 |0,_=> []
 |_,[]=> []
 |n+1,x::l=>yh st n x++idsL st n l
end
def sh:List Nat→Env→List AO→Option (Env×List AO)
 |[],env,st=>some (env,st)
 |id::l,env,st=>match st[id]? with
  |some .dead=>sh l env st
  |_=>(match yn id env st with
   |some (env',st')=>sh l env' st'
   |none=>none)
theorem nw{e:En}:∀{l:List Nat}{env env':Env}{st st':List AO},sh l env st=some (env',st')→Gh e env st env' st'
 |[],env,env',st,st',h=>by
  simp only[sh,ak,Prod.mk.injEq] at h
  obtain⟨rfl,rfl⟩:=h
  exact Gh.refl
 |id::l,env,env',st,st',h=>by
  unfold sh at h
  split at h
  ·exact nw h
  ·split at h
   ·rename_i h1
    exact(wq h1).trans (nw h)
   ·cases h
mutual
def leX:Nat→AV→D→Bool
 |0,_,_=>false
 |n+1,x,d=>match x with
  | .ag xs=>(match d with
   | .ag ds=>leXs n xs ds
   |_=>false)
  | .d (.ag ps)=>(match d with
   | .ag ds=>leXs n (ps.map .d) ds
   |_=>false)
  | .d (.v (.slice none 0 0))=>(match d with
   | .sl []=>true
   | .v (.slice none 0 0)=>true
   |_=>false)
  | .d a=>eqD a d
  |_=>false
def leXs:Nat→List AV→List D→Bool
 |0,_,_=>false
 |_,[],[]=>true
 |n+1,x::xs,d::ds=>leX n x d&&leXs n xs ds
 |_,_,_=>false
end
def unN:D→D
 | .v (.slice none 0 0)=> .sl []
 |x=>x
theorem xA{φ:Nat→Nat}{w:World}{x:D}{v:Value}(h:RD φ w x v):RD φ w (unN x) v:=by
 unfold unN
 split
 ·have:=Le.nil [] φ w v (by simpa[RA] using h)
  simpa[RA] using this
 ·exact h
def dm(f:AV→Option D):List AV→Option (List D)
 |[]=>some []
 |x::l=>match f x,dm f l with|some d,some ds=>some (d::ds)|_,_=>none
def jq(f:AV→Option D):List (List AV)→Option (List (List D))
 |[]=>some []
 |x::l=>match dm f x,jq f l with|some d,some ds=>some (d::ds)|_,_=>none
def ia(st:List AO):Nat→AV→Option D
 |0,_=>none
 |n+1,x=>match x with
  | .d x=>some (unN x)
  | .ag ps=>(dm (ia st n) ps).map .ag
  | .os id ver=>match st[id]? with
   |some (.os _ _ ver' es)=>bif Nat.beq ver ver' then(jq (ia st n) es).map .sl else none
   |_=>none
  | .ow id ver off len lo=>match st[id]? with
   |some (.os _ k ver' es)=>bif Nat.beq ver ver'&&(Nat.beq off (lo*k)&&Nat.ble (lo+len) es.length) then(jq (ia st n) ((es.drop lo).take len)).map .sl else none
   |_=>none
  |_=>none
theorem gf{m φ w}{φ':Nat→Nat}{f:AV→Option D}(hf:∀x v d,RA m φ w x v→f x=some d→RD φ' w d v):∀{xs:List AV}{vs:List Value}{ds:List D},RAs m φ w xs vs→dm f xs=some ds→RFs φ' w ds vs
 |[],vs,ds,h,hv=>by
  simp only[dm,ak] at hv
  subst hv
  simpa[RAs,RFs] using h
 |x::xs,vs,ds,h,hv=>by
  simp only[RAs] at h
  obtain⟨c,cs,rfl,h1,h2⟩:=h
  simp only[dm] at hv
  split at hv
  ·rename_i d ds' e1 e2
   simp only[ak] at hv
   subst hv
   simp only[RFs]
   exact⟨c,cs,rfl,hf _ _ _ h1 e1,gf hf h2 e2⟩
  ·cases hv
theorem mr{f:AV→Option D}:∀{xs:List AV}{ds:List D},dm f xs=some ds→ds.length=xs.length
 |[],ds,hv=>by simp only[dm,ak] at hv;subst hv;rfl
 |x::xs,ds,hv=>by
  simp only[dm] at hv
  split at hv
  ·rename_i d ds' e1 e2
   simp only[ak] at hv
   subst hv
   simp[mr e2]
  ·cases hv
theorem ms{f:AV→Option D}:∀{xs ys:List AV}{ds es:List D},dm f xs=some ds→dm f ys=some es→dm f (xs++ys)=some (ds++es)
 |[],ys,ds,es,h,k=>by simp only[dm,ak] at h;subst h;exact k
 |x::xs,ys,ds,es,h,k=>by
  simp only[dm] at h
  split at h
  ·rename_i d ds' e1 e2
   simp only[ak] at h
   subst h
   simp only[List.cons_append,dm,e1,ms e2 k]
  ·cases h
theorem jp{f:AV→Option D}{k:Nat}:∀{es:List (List AV)}{ds:List (List D)},jq f es=some ds→(∀e∈es,e.length=k)→dm f es.flatten=some ds.flatten∧ds.length=es.length∧∀e∈ds,e.length=k
 |[],ds,hv,_=>by simp only[jq,ak] at hv;subst hv;exact⟨rfl,rfl,λe he=>by cases he⟩
 |x::xs,ds,hv,hk=>by
  simp only[jq] at hv
  split at hv
  ·rename_i d ds' e1 e2
   simp only[ak] at hv
   subst hv
   obtain⟨h1,h2,h3⟩:=jp e2 (λe he=>hk e (List.mem_cons_of_mem _ he))
   refine⟨by rw[List.flatten_cons,List.flatten_cons];exact ms e1 h1,by simp[h2],λe he=>?_⟩
   rcases List.mem_cons.1 he with rfl|he
   ·rw[mr e1];exact hk x List.mem_cons_self
   ·exact h3 e he
  ·cases hv
theorem nv{φ:Nat→Nat}{w:World}:Fz φ w (aP w) w:=λ_ _ _ _ h=>⟨cell_lt' h,h⟩
where
 cell_lt' {w:World} {b off:Nat} {c:Value} (h:w.cell? ⟨b,off,none⟩=some c):off<aP w b:=by
  unfold World.cell? at h
  unfold aP
  split at h
  ·rename_i cs t fr hh
   simp only at hh
   rw[hh]
   simp only[Option.isSome_none,Bool.false_eq_true,if_false] at h
   exact(Array.getElem?_eq_some_iff.1 h).1
  ·cases h
theorem ql{m φ st w}(hs:SR m φ st w):∀(n:Nat)(x:AV)(v:Value)(d:D),RA m φ w x v→ia st n x=some d→RD (aP w) w d v
 |0,x,v,d,_,hv=>by simp[ia] at hv
 |n+1,x,v,d,h,hv=>by
  have ih:=ql hs n
  cases x with
  |d x=>
   simp only[ia,ak] at hv
   subst hv
   simp only[RA] at h
   exact xA (RD.mono nv _ _ h)
  |ag ps=>
   simp only[ia,Option.map_eq_some_iff] at hv
   obtain⟨ds,h1,rfl⟩:=hv
   simp only[RA] at h
   obtain⟨cs,rfl,h2⟩:=h
   simp only[RD]
   exact⟨cs,rfl,gf ih h2 h1⟩
  |os id ver=>
   simp only[ia] at hv
   split at hv
   ·rename_i T k ver' es hi
    cases hb:Nat.beq ver ver' with
    |false=>rw[hb] at hv;cases hv
    |true=>
     rw[hb,cdT,Option.map_eq_some_iff] at hv
     obtain⟨ds,hd,rfl⟩:=hv
     have hver:=nbE hb
     subst hver
     simp only[RA] at h
     obtain⟨v0,y0,g1,g2,g3⟩:=h
     obtain⟨y',xs,e1,h1,h2,h3,h4⟩:=hs.obj id _ _ hi g1
     simp only[Cz.tok.injEq] at e1
     obtain⟨rfl,rfl⟩:=e1
     have hy:=g3 rfl
     subst hy
     obtain⟨f1,f2,f3⟩:=jp hd h3
     have h2':RFs (aP w) w ds.flatten xs:=gf ih h2 f1
     simp only[RD]
     rw[←f2] at h1
     rcases h1.2 with⟨rfl,hn⟩|⟨g,cap,cur,rfl,_,hg,hnc,_,_,_⟩
     ·exact .inl ⟨List.eq_nil_of_length_eq_zero hn,none,0,rfl,λ_=>rfl⟩
     ·refine .inr ⟨g,0,k,cap,rfl,hnc,f3,ej f3 h2' λj v hj=>?_⟩
      have:=cT h1 hj
      rw[Nat.zero_add]
      exact⟨nv.cell_lt' this,this⟩
   ·cases hv
  |ow id ver off len lo=>
   simp only[ia] at hv
   split at hv
   ·rename_i T k ver' es hi
    cases hb:(Nat.beq ver ver'&&(Nat.beq off (lo*k)&&Nat.ble (lo+len) es.length)) with
    |false=>rw[hb] at hv;cases hv
    |true=>
     rw[hb,cdT,Option.map_eq_some_iff] at hv
     obtain⟨ds,hd,rfl⟩:=hv
     rw[Bool.and_eq_true,Bool.and_eq_true] at hb
     obtain⟨hb1,hb2,hb3⟩:=hb
     have hver:=nbE hb1
     have hoff:=nbE hb2
     have hfit:=nbT hb3
     subst hver;subst hoff
     obtain⟨y,xs,g1,h1,h2,h3,h4,h5⟩:=rS hs Piece.ow h hi
     have h3':∀e∈(es.drop lo).take len,e.length=k:=λe he=>h3 e (List.mem_of_mem_drop (List.mem_of_mem_take he))
     obtain⟨f1,f2,f3⟩:=jp hd h3'
     have hfl:((es.drop lo).take len).flatten=(es.flatten.drop (lo*k)).take (len*k):=by
      rw[fd _ _ (λe he=>h3 e (List.mem_of_mem_drop he)),gV _ _ h3]
     have h2':RAs m φ w ((es.drop lo).take len).flatten ((xs.drop (lo*k)).take (len*k)):=by
      rw[hfl];exact bK _ (bP _ h2)
     have h2'':RFs (aP w) w ds.flatten ((xs.drop (lo*k)).take (len*k)):=gf ih h2' f1
     have hlen:ds.length=len:=by rw[f2,List.length_take,List.length_drop];omega
     have hxl:=h1.1
     simp only[RD]
     rcases h5 with⟨_,rfl,rfl⟩|⟨b,nn,cap,off',rfl,rfl,ho⟩
     ·exact .inl ⟨List.eq_nil_of_length_eq_zero hlen,none,0,rfl,λ_=>rfl⟩
     ·by_cases h0:len=0
      ·subst h0
       exact .inl ⟨List.eq_nil_of_length_eq_zero hlen,_,_,rfl,λh=>by cases h⟩
      ·have ho2:off'=lo*k:=ho.resolve_right h0
       subst ho2
       have hcap:nn=es.length∧nn≤cap:=by
        rcases h1.2 with⟨e1,_⟩|⟨g,cap',cur,e1,_,_,hnc,_,_,_⟩
        ·cases e1
        ·simp only[Value.slice.injEq] at e1;obtain⟨_,rfl,rfl⟩:=e1;exact⟨rfl,hnc⟩
       refine .inr ⟨b,lo*k,k,cap - lo,by rw[hlen],oM,f3,ej f3 h2'' λj v hj=>?_⟩
       have hj2:xs[lo*k+j]? =some v:=by
        rw[List.getElem?_take] at hj
        split at hj
        ·rw[List.getElem?_drop] at hj;exact hj
        ·cases hj
       have:=cT h1 hj2
       exact⟨nv.cell_lt' this,this⟩
   ·cases hv
  |_=>simp[ia] at hv
section
variable{P:Program}{env:Env}{st:List AO}{dst:Option Tmp}{ty:TypeId}{pos:String}{after:Array Edge}{guard:Option (Nat×Bool)}
end
section
variable{P:Program}{e:En}{ops:Array Oper}{o:Oper}{rest:List Oper}{env:Env}{st:List AO}{R:Env→List AO→Prop}{d:Nat}
theorem rI{f:FuncId}{m φ w}{asz:List AV}{vs:List Value}{ds:List D}{y:D}{val:Value}(n:Nat)(hc:Pu P f ds y)(hg:y.gnd=some val)(hs:SR m φ st w)(ha:RAs m φ w asz vs)(hv:dm (ia st n) asz=some ds):
  Calls P f ⟨vs⟩ w λen w'=>en= .returned val∧Below w.heap.size w w':=by
 have h1:RFs (aP w) w ds vs:=gf (ql hs n) ha hv
 have hsr:SR [] (aP w) [] w:=oe w (hs.gl.mono nv)
 refine(hc.2 [] (aP w) w vs hsr (cu h1)).mono ?_
 rintro en w' ⟨v,r,st',m',φ',rfl,⟨rfl,rfl⟩,hev,_,hra⟩
 have hv2:=uT (by simpa[RA] using hra) hg
 subst hv2
 exact⟨rfl,hev.os,hev.tape,hev.output,hev.size,λb hb=>(hev.keep b hb (by simp[In])).1⟩
end
theorem sV{P:Program}{f:FuncId}{asz:List AV}{st:List AO}{ds:List D}{y:D}{val:Value}(n:Nat)(hc:Pu P f ds y)(hg:y.gnd=some val)(hv:dm (ia st n) asz=some ds):Ctr P f asz st (λr' s'=>r'= .d y∧s'=st):=
 ⟨hc.1,λm φ w vs hs ha=>(rI n hc hg hs ha hv).mono λen w' h=>⟨val, .d y,st,m,φ,h.1,⟨rfl,rfl⟩,Ev.of_below hs h.2,hs.of_below h.2,by simpa[RA] using ue hg⟩⟩
def knV:List (FuncId×List D×D)→bH
 |[],_,_,_=>none
 |(g,ds,y)::tab,f,asz,st=>bif Nat.beq g f&&(y.gnd.isSome&&(match dm (ia st 100) asz with
  |some ds'=>eqDs ds' ds
  |none=>false)) then some (.d y,st) else knV tab f asz st
theorem tY{P:Program}:∀{tab:List (FuncId×List D×D)},(∀p∈tab,Pu P p.1 p.2.1 p.2.2)→cw P (knV tab)
 |[],_,f,asz,st,r,st',h=>by cases h
 |(g,ds,y)::tab,ht,f,asz,st,r,st',h=>by
  unfold knV at h
  cases hb:(Nat.beq g f&&(y.gnd.isSome&&(match dm (ia st 100) asz with
   |some ds'=>eqDs ds' ds
   |none=>false))) with
  |false=>rw[hb] at h;exact tY (λp hp=>ht p (List.mem_cons_of_mem _ hp)) f asz st r st' h
  |true=>
   rw[hb] at h
   simp only[cdT,ak,Prod.mk.injEq] at h
   obtain⟨rfl,rfl⟩:=h
   rw[Bool.and_eq_true,Bool.and_eq_true] at hb
   obtain⟨h1,h2,h3⟩:=hb
   have e:=nbE h1
   subst e
   obtain⟨val,hval⟩:=Option.isSome_iff_exists.1 h2
   split at h3
   ·rename_i ds' hv
    have:=eqDs_ok h3
    subst this
    exact sV 100 (ht _ List.mem_cons_self) hval hv
   ·cases h3
def orX(a b:bH):bH:=λf asz st=>match a f asz st with
 |some r=>some r
 |none=>b f asz st
theorem tt{P:Program}{a b:bH}(ha:cw P a)(hb:cw P b):cw P (orX a b):=λf asz st r st' h=>by
 unfold orX at h
 split at h
 ·rename_i h1
  obtain rfl:=inS h
  exact ha _ _ _ _ _ h1
 ·exact hb _ _ _ _ _ h
def ym:fZ:=λo env st=>match o.op with
 | .slice _ x _ _ _=>(match opv env x with
  |some (.os id v)=>sh (yh st 64 (.os id v)) env st
  |_=>none)
 |_=>none
theorem wo:jS ym:=λe o env st env' st' h=>by
 unfold ym at h
 split at h
 ·split at h
  ·exact nw h
  ·cases h
 ·cases h
theorem rR{P:Program}{f:FuncId}{asz:List D}{r:D}{st':List AO}(h:Ctr P f (asz.map .d) [] λr' s'=>r'= .d r∧s'=st'):Pu P f asz r:=by
 refine⟨h.1,λm φ w vs hs ha=>(h.2 m φ w vs hs ha).mono ?_⟩
 rintro en w' ⟨v,r',s',m',φ',rfl,⟨rfl,rfl⟩,hev,hsr,hra⟩
 have hm:m=[]:=List.eq_nil_of_length_eq_zero hs.len
 subst hm
 exact⟨v,_,[],[],φ',rfl,⟨rfl,rfl⟩,⟨Pre.refl _,λ_ h=> .inl h,hev.os,hev.tape,hev.output,hev.size,hev.keep,hev.fz⟩,hsr.nil,by simpa[RA] using hra⟩
def knM:List (FuncId×List AV×List AO×AV×List AO)→bH
 |[],_,_,_=>none
 |(g,xs,s,r,s')::tab,f,asz,st=>bif Nat.beq g f&&(eqAVs asz xs&&kd st s) then some (r,s') else knM tab f asz st
theorem tZ{P:Program}:∀{tab:List (FuncId×List AV×List AO×AV×List AO)},(∀p∈tab,Ctr P p.1 p.2.1 p.2.2.1 λr' s'=>r'=p.2.2.2.1∧s'=p.2.2.2.2)→cw P (knM tab)
 |[],_,f,asz,st,r,st',h=>by cases h
 |(g,xs,s,r0,s0)::tab,ht,f,asz,st,r,st',h=>by
  unfold knM at h
  cases hb:(Nat.beq g f&&(eqAVs asz xs&&kd st s)) with
  |false=>rw[hb] at h;exact tZ (λp hp=>ht p (List.mem_cons_of_mem _ hp)) f asz st r st' h
  |true=>
   rw[hb] at h
   simp only[cdT,ak,Prod.mk.injEq] at h
   obtain⟨rfl,rfl⟩:=h
   rw[Bool.and_eq_true,Bool.and_eq_true] at hb
   have e:=nbE hb.1
   subst e
   rw[eqAVs_ok hb.2.1,iY hb.2.2]
   exact ht _ List.mem_cons_self
end Go.Sk
