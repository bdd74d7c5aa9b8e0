/-
  A store of slices of our own into cells of a slice of our own.
-/
import Derived.Maps.RangeRun
import Derived.Laws.IdiomStrings
import Derived.Test.YtpodhdopgcedlaaGreatDoorT
set_option linter.unusedVariables false
set_option linter.unusedSimpArgs false
set_option linter.unusedSectionVars false
set_option linter.unnecessarySimpa false
namespace Go.Sk
open Go.RowKit (Below)
section
variable{P:Program}{env:Env}{st st':List AO}{dst:Option Tmp}{ty:TypeId}{pos:String}{after:Array Edge}{guard:Option (Nat×Bool)}
theorem pS{T:TypeId}{x y:Operand}{id ver off n T' k:Nat}{es es':List (List AV)}{r:AV}{rs:List AV}(hx:opv env x=some (.pe id ver off))(hs:st[id]? =some (.os T' k ver es))(hy:opv env y=some r)(hk:r.okS st=true)(hc:r.cells=rs)(hk1:rs.all (AV.ok1S st)=true)
  (hn:bi P T=some n)(hl:rs.length=n)(hlen:off+n≤es.flatten.length)(hes:es'.flatten=es.flatten.take off++rs++es.flatten.drop (off+n))(hel:es'.length=es.length)(hek:∀e∈es',e.length=k):
  Does P env st ⟨dst, .store T x y,ty,pos,after,guard⟩ (.d (.v undef)) (st.set id (.os T' k ver es')):=λm φ a w hsr he=>by
 obtain⟨b,len,cap,xs,g1,g2,g3,g4,g5,g6⟩:=kr hsr he hx hs
 obtain⟨us,q1,q2⟩:=fZ hsr (aN he hy) hk
 rw[hc] at q2
 have hul:=aJ q2
 have hxl:=aJ g4
 obtain⟨r1,r2⟩:=g3
 rcases r2 with⟨hv,_⟩|⟨g,cap',cur,hv,p1,p2,p3,p4,p5,p6⟩
 ·cases hv
 simp only[Value.slice.injEq,am,Addr.mk.injEq,and_true] at hv
 obtain⟨rfl,rfl,rfl⟩:=hv
 have hcl:es.length*k≤cur.size:=by rw[p5];exact Nat.mul_le_mul_right _ p3
 have hfl:es.flatten.length=es.length*k:=oM
 have hst:=run_storeCells_at P b off T' us 0 cur w p2 oM (jY hsr q2 hk1)
 simp only[Nat.add_zero,hul,hl] at hst
 have hsize:us.length=n:=oM
 have hnew:RAs m φ w es'.flatten (xs.take off++us++xs.drop (off+n)):=by rw[hes];exact aE (aE (bz off g4) q2) (bN _ g4)
 have htk:((cur.toList.take off++us++cur.toList.drop (off+n)).toArray.toList).take (es.length*k)=xs.take off++us++xs.drop (off+n):=by
  rw[←p6]
  apply List.ext_getElem?
  intro j
  have hcz:cur.toList.length=cur.size:=sM
  simp only[List.getElem?_take,List.getElem?_append,List.length_append,List.length_take,List.getElem?_drop,hsize,hcz]
  rw[Nat.min_eq_left (show off≤cur.size by omega),Nat.min_eq_left (show es.length*k≤cur.size by omega),Nat.min_eq_left (show off≤es.length*k by omega)]
  by_cases h1:j<es.length*k
  ·rw[if_pos h1]
   by_cases h2:j<off+n
   ·rw[if_pos h2,if_pos h2]
    by_cases h3:j<off
    ·simp only[if_pos h3,if_pos h1]
    ·simp only[if_neg h3]
   ·rw[if_neg h2,if_neg h2]
    have:off+n+(j - (off+n))=j:=oM
    rw[this,if_pos h1]
  ·rw[if_neg h1,if_neg (show¬j<off+n by omega)]
   have:off+n+(j - (off+n))=j:=oM
   rw[this,if_neg h1]
 obtain⟨k1,k2⟩:=nY hsr hs g1 hnew hel hek cur p2 (cur.toList.take off++us++cur.toList.drop (off+n)).toArray (by simp[hsize];omega) htk
 refine⟨undef,_,m,φ, .inr ⟨?_,rfl⟩,k1,k2,RAv⟩
 simp[execOp,Instr.storeAt,Instr.sureAddr,g2,storeVar,q1,ar hn,hsize,hst]
end
open Go.MapKept (IsKey sameNow_of_keys run_checkKey run_findKey run_keyThatStays)
def ixL{κ:Type}[DecidableEq κ]:List κ→κ→Option Nat
 |[],_=>none
 |a::l,k=>if a=k then some 0 else(ixL l k).map (·+1)
theorem se{κ:Type}[DecidableEq κ]{k:κ}:∀{L:List κ}{j:Nat},ixL L k=some j→L[j]? =some k
 |[],_,h=>by cases h
 |a::L,j,h=>by
  unfold ixL at h
  by_cases hp:a=k
  ·rw[if_pos hp] at h
   obtain rfl:=inS h
   rw[hp];rfl
  ·rw[if_neg hp,Option.map_eq_some_iff] at h
   obtain⟨i,h1,rfl⟩:=h
   rw[List.getElem?_cons_succ]
   exact se h1
structure KeyX(P:Program){κ:Type}[DecidableEq κ](kt:TypeId)(kf:κ→Value):Prop where
 chk:∀em k w,(Instr.checkKey em 10000 kt (kf k)).run P w= .ok () w
 find:∀(k:κ)(L:List κ)(l:List MapEntry)(w:World),l.map (·.key)=L.map kf→(Instr.findKey kt (kf k) l).run P w= .ok ((ixL L k).bind λj=>(l[j]?).map λe=>(j,e.val)) w
 stays:∀k w,(Instr.keyThatStays (kf k) (kf k)).run P w= .ok (kf k) w
section
variable{κ:Type}[DecidableEq κ]{P:Program}{d:TypeDesc}{kt:TypeId}{kf:κ→Value}
theorem mz(hK:KeyF d kf)(k:κ):∀(L:List κ)(l:List MapEntry)(i:Nat),l.map (·.key)=L.map kf→Instr.findNow d (kf k) l i=some ((ixL L k).bind λj=>(l[j]?).map λe=>(i+j,e.val))
 |[],[],i,_=>rfl
 |a::L,e::l,i,h=>by
  simp only[List.map_cons,List.cons.injEq] at h
  obtain⟨r,hr,hiff⟩:=sameNow_of_keys (hK.key k) (h.1▸hK.key a:IsKey d e.key)
  by_cases hp:a=k
  ·have:r=true:=hiff.2 (by rw[h.1,hp])
   simp[Instr.findNow,hr,this,ixL,hp]
  ·have hne:r=false:=by
    cases r with
    |false=>rfl
    |true=>exact absurd (hK.inj _ _ ((hiff.1 rfl).trans h.1)).symm hp
   rw[show ixL (a::L) k=(ixL L k).map (·+1) by rw[ixL,if_neg hp]]
   simp only[Instr.findNow,hr,hne,mz hK k L l (i+1) h.2]
   cases ixL L k with
   |none=>rfl
   |some j=>
    simp only[bnS,Option.map_some,List.getElem?_cons_succ]
    rw[show i+1+j=i+(j+1) by omega]
 |[],_::_,_,h=>by simp at h
 |_::_,[],_,h=>by simp at h
theorem iL(hK:KeyS P kt kf)(k:κ)(w:World):∀(L:List κ)(l:List MapEntry)(i:Nat),l.map (·.key)=L.map kf→(Instr.findAsking kt (kf k) l i).run P w= .ok ((ixL L k).bind λj=>(l[j]?).map λe=>(i+j,e.val)) w
 |[],[],i,_=>by simp[Instr.findAsking,ixL]
 |a::L,e::l,i,h=>by
  simp only[List.map_cons,List.cons.injEq] at h
  have hr:=hK.eq k a w
  rw[←h.1] at hr
  by_cases hp:a=k
  ·simp[Instr.findAsking,hr,hp,ixL]
  ·have hp':¬k=a:=λe=>hp e.symm
   rw[show ixL (a::L) k=(ixL L k).map (·+1) by rw[ixL,if_neg hp]]
   simp only[Instr.findAsking,Sem.run_bind,hr,hp',decide_false,Result.andThen_ok,Bool.false_eq_true,if_false,iL hK k w L l (i+1) h.2]
   cases ixL L k with
   |none=>rfl
   |some j=>
    simp only[bnS,Option.map_some,List.getElem?_cons_succ]
    rw[show i+1+j=i+(j+1) by omega]
 |[],_::_,_,h=>by simp at h
 |_::_,[],_,h=>by simp at h
theorem wd(hd:P.underlying kt=some d)(hK:KeyF d kf):KeyX P kt kf:=
 ⟨λem k w=>by simp[run_checkKey hd (hK.key k)],λk L l w h=>run_findKey hd (by simpa using mz hK k L l 0 h),λk w=>by simp[run_keyThatStays (hK.key k)]⟩
theorem wb(hK:KeyS P kt kf):KeyX P kt kf:=
 ⟨hK.chk,λk L l w h=>by rw[run_findKey_eq (P:=P) w hK.wide (kf k) l];simpa using iL hK k w L l 0 h,λk w=>gU hK k w⟩
end
inductive KDk where
 |i(k:IntKind)
 |p(k1 k2:IntKind)
def np(P:Program)(kt:TypeId):Option KDk:=match P.underlying kt with
 |some (.int k)=>some (.i k)
 |some (.struct fs)=>(match fs.toList with
  |[f1,f2]=>(match P.underlying f1.type,P.underlying f2.type,jK P 100 kt with
   |some (.int k1),some (.int k2),some [.int k1', .int k2']=>bif decide (k1=k1')&&(decide (k2=k2')&&(Nat.beq f1.offset 0&&Nat.beq f2.offset 1)) then some (.p k1 k2) else none
   |_,_,_=>none)
  |_=>none)
 |_=>none
def dkI(k:IntKind):Value→Option Int
 | .int k' i=>bif decide (k=k') then some i else none
 |_=>none
def dkP(k1 k2:IntKind):Value→Option (Int×Int)
 | .agg a=>(match a.toList with
  |[.int a1 i, .int a2 j]=>bif decide (k1=a1)&&decide (k2=a2) then some (i,j) else none
  |_=>none)
 |_=>none
theorem vz{k:IntKind}{v:Value}{i:Int}(h:dkI k v=some i):v= .int k i:=by
 unfold dkI at h
 split at h
 ·rename_i k' j
  cases hb:decide (k=k') with
  |true=>rw[hb] at h;obtain rfl:=inS h;rw[of_decide_eq_true hb]
  |false=>rw[hb] at h;cases h
 ·cases h
theorem vy{k1 k2:IntKind}{v:Value}{x:Int×Int}(h:dkP k1 k2 v=some x):v= .agg ⟨[.int k1 x.1, .int k2 x.2]⟩:=by
 unfold dkP at h
 split at h
 ·rename_i a
  split at h
  ·rename_i a1 i a2 j hl
   cases hb:decide (k1=a1)&&decide (k2=a2) with
   |true=>
    rw[hb] at h
    obtain rfl:=inS h
    rw[Bool.and_eq_true] at hb
    obtain⟨a⟩:=a
    simp only at hl
    rw[hl,of_decide_eq_true hb.1,of_decide_eq_true hb.2]
   |false=>rw[hb] at h;cases h
  ·cases h
 ·cases h
theorem sc{P:Program}{kt:TypeId}{k:IntKind}(h:np P kt=some (.i k)):KeyX P kt (λx:Int=>Value.int k x):=by
 unfold np at h
 split at h
 ·rename_i k' hu
  simp only[am,KDk.i.injEq] at h
  subst h
  exact wd hu (KeyF.int _)
 ·split at h
  ·split at h
   ·rw[Bool.cond_eq_ite] at h
    split at h<;>cases h
   ·cases h
  ·cases h
 ·cases h
theorem rZ{P:Program}{kt:TypeId}{k1 k2:IntKind}(h:np P kt=some (.p k1 k2)):KeyX P kt (λx:Int×Int=>Value.agg ⟨[.int k1 x.1, .int k2 x.2]⟩):=by
 unfold np at h
 split at h
 ·cases h
 ·rename_i fs hu
  split at h
  ·rename_i f1 f2 hf
   split at h
   ·rename_i a1 a2 b1 b2 h1 h2 h3
    cases hb:(decide (a1=b1)&&(decide (a2=b2)&&(Nat.beq f1.offset 0&&Nat.beq f2.offset 1))) with
    |true=>
     rw[hb] at h
     simp only[cdT,am,KDk.p.injEq] at h
     obtain⟨rfl,rfl⟩:=h
     simp only[Bool.and_eq_true] at hb
     obtain⟨c1,c2,c3,c4⟩:=hb
     have c1:=of_decide_eq_true c1
     have c2:=of_decide_eq_true c2
     subst c1 c2
     obtain⟨fs⟩:=fs
     simp only at hf
     subst hf
     exact wb (kM hu h1 h2 (nbE c3) (nbE c4) h3)
    |false=>rw[hb] at h;cases h
   ·cases h
  ·cases h
 ·cases h
def pG{κ:Type}(dk:Value→Option κ):List (Value×Nat)→Option (List κ)
 |[]=>some []
 |p::l=>match dk p.1,pG dk l with
  |some k,some ks=>some (k::ks)
  |_,_=>none
theorem mm{κ:Type}{dk:Value→Option κ}{kf:κ→Value}(hd:∀v k,dk v=some k→v=kf k):∀{es:List (Value×Nat)}{L:List κ},pG dk es=some L→es.map (·.1)=L.map kf
 |[],L,h=>by obtain rfl:=inS h;rfl
 |p::l,L,h=>by
  unfold pG at h
  split at h
  ·rename_i h1 h2
   obtain rfl:=inS h
   rw[List.map_cons,List.map_cons,hd _ _ h1,mm hd h2]
  ·cases h
def rz:List AV→Option (List Value)
 |[]=>some []
 | .d (.v v)::l=>match rz l with
  |some vs=>some (v::vs)
  |none=>none
 |_=>none
def rA:List D→Option (List Value)
 |[]=>some []
 | .v v::l=>match rA l with
  |some vs=>some (v::vs)
  |none=>none
 |_=>none
def agV:AV→Option (List Value)
 | .ag ps=>rz ps
 | .d (.ag ds)=>rA ds
 |_=>none
theorem o6:∀{ps:List AV}{vs:List Value},rz ps=some vs→ps=(vs.map D.v).map AV.d
 |[],vs,h=>by obtain rfl:=inS h;rfl
 |x::l,vs,h=>by
  unfold rz at h
  split at h
  ·rename_i h0;cases h0
  ·rename_i v l' h0
   obtain⟨rfl,rfl⟩:=List.cons.inj h0
   split at h
   ·rename_i vs' h1
    obtain rfl:=inS h
    rw[o6 h1]
    rfl
   ·cases h
  ·cases h
theorem o7:∀{ps:List D}{vs:List Value},rA ps=some vs→ps=vs.map D.v
 |[],vs,h=>by obtain rfl:=inS h;rfl
 |x::l,vs,h=>by
  unfold rA at h
  split at h
  ·rename_i h0;cases h0
  ·rename_i v l' h0
   obtain⟨rfl,rfl⟩:=List.cons.inj h0
   split at h
   ·rename_i vs' h1
    obtain rfl:=inS h
    rw[o7 h1]
    rfl
   ·cases h
  ·cases h
theorem mH{x:AV}{vs:List Value}(h:agV x=some vs):Le x (.d (.ag (vs.map D.v))):=by
 unfold agV at h
 split at h
 ·rw[o6 h];exact bc (Les.refl _)
 ·rw[o7 h];exact Le.refl _
 ·cases h
def xf(x:AV):Option Value:=match x with
 | .d (.v v)=>some v
 |x=>(agV x).map λvs=> .agg ⟨vs⟩
theorem rY{m φ w}{x:AV}{v y:Value}(h:xf x=some v)(hr:RA m φ w x y):y=v:=by
 unfold xf at h
 split at h
 ·obtain rfl:=inS h
  simpa[RA,RD] using hr
 ·rw[Option.map_eq_some_iff] at h
  obtain⟨vs,h1,rfl⟩:=h
  have:=mH h1 _ _ _ _ hr
  simp only[RA,RD] at this
  obtain⟨cs,e1,e2⟩:=this
  rw[fg e2] at e1
  exact e1
def lkG{κ:Type}[DecidableEq κ](dk:Value→Option κ)(es:List (Value×Nat))(xs:List AV)(zv kv:Value):Option (AV×Bool):=
 match dk kv,pG dk es with
 |some k,some L=>(match ixL L k with
  |some j=>(match xs[j]? with
   |some x=>some (x,true)
   |none=>none)
  |none=>some (dV zv,false))
 |_,_=>none
def lkD(P:Program)(kt:TypeId)(es:List (Value×Nat))(xs:List AV)(zv kv:Value):Option (AV×Bool):=match np P kt with
 |some (.i k)=>lkG (dkI k) es xs zv kv
 |some (.p k1 k2)=>lkG (dkP k1 k2) es xs zv kv
 |none=>none
def tuB(c:Bool)(r:AV×Bool):AV:=bif c then .tu [r.1, .d (.v (.bool r.2))] else r.1
def lkX(P:Program)(env:Env)(st:List AO)(T:TypeId)(x ki:Operand)(c:Bool):Option AV:=
 match P.underlying T,opv env x,(opv env ki).bind xf with
 |some (.map kt et),some xr,some kv=>(match(P.info? et).bind (·.zero),xr with
  |some zv, .mp id=>(match st[id]? with
   |some (.mb es xs _)=>(match lkD P kt es xs zv kv with
    |some r=>some (tuB c r)
    |none=>none)
   |_=>none)
  |some zv, .d (.v (.map none))=>(match lkD P kt [] [] zv kv with
   |some r=>some (tuB c r)
   |none=>none)
  |_,_=>none)
 |_,_,_=>none
def muG{κ:Type}[DecidableEq κ](dk:Value→Option κ)(es:List (Value×Nat))(xs:List AV)(cl:Nat)(kv:Value)(uu:AV):Option AO:=
 match dk kv,pG dk es with
 |some k,some L=>(match ixL L k with
  |some j=>some (.mb es (xs.set j uu) cl)
  |none=>some (.mb (es++ [(kv,cl)]) (xs++ [uu]) (cl+1)))
 |_,_=>none
def muX(P:Program)(env:Env)(st:List AO)(T:TypeId)(x ki v:Operand):Option (AV×List AO):=
 match P.underlying T,opv env x,(opv env ki).bind xf,opv env v with
 |some (.map kt _),some (.mp id),some kv,some uu=>(match st[id]? with
  |some (.mb es xs cl)=>(match(match np P kt with
    |some (.i k)=>muG (dkI k) es xs cl kv uu
    |some (.p k1 k2)=>muG (dkP k1 k2) es xs cl kv uu
    |none=>none) with
   |some o=>some (.d (.v undef),st.set id o)
   |none=>none)
  |_=>none)
 |_,_,_,_=>none
def rgX(P:Program)(env:Env)(st:List AO)(T:TypeId)(x:Operand):Option (AV×List AO):=
 match P.underlying T,opv env x with
 |some (.map _ _),some (.mp id)=>(match st[id]? with
  |some (.mb _ _ cl)=>some (.pt st.length 0,st++ [.it (.mp id) cl [] cl])
  |_=>none)
 |some (.map _ _),some (.d (.v (.map none)))=>some (.pt st.length 0,st++ [.it (.d (.v (.map none))) 0 [] 0])
 |_,_=>none
def mG(es:List (Value×Nat))(s:Nat):Option Nat:=match es with
 |[]=>none
 |p::l=>bif Nat.beq p.2 s then some 0 else(match mG l s with
  |some j=>some (j+1)
  |none=>none)
def enX(env:Env)(st:List AO)(x:Operand):Option AV:=match opv env x with
 |some (.pt iid 0)=>(match st[iid]? with
  |some (.it (.mp id) _ seen stp)=>(match seen.getLast?,st[id]? with
   |some s,some (.mb es xs cl)=>bif Nat.beq cl stp then(match mG es s with
    |some j=>(match es[j]?,xs[j]? with
     |some p,some r=>some (.tu [dV p.1,r])
     |_,_=>none)
    |none=>none) else none
   |_,_=>none)
  |_=>none)
 |_=>none
def kw(iid id since stp cl:Nat)(seen:List Nat)(es:List (Value×Nat))(xs:List AV)(st:List AO):List (AV×List AO):=
 (bif es.all (λp=>seen.contains p.2|| !(Nat.blt p.2 since)) then[(.tu [.d (.v (.bool false))],st)] else[])++
 (List.zip es xs).filterMap λp=>bif seen.contains p.1.2 then none else some (.tu [.d (.v (.bool true)),dV p.1.1,p.2],st.set iid (.it (.mp id) since (seen++ [p.1.2]) cl))
def nxX(env:Env)(st:List AO):Op→Option (List (AV×List AO))
 | .next x false=>(match opv env x with
  |some (.pt iid 0)=>(match st[iid]? with
   |some (.it (.mp id) since seen stp)=>(match st[id]? with
    |some (.mb es xs cl)=>bif !(!seen.isEmpty&&(!es.isEmpty&&es.all λp=>Nat.ble stp p.2)) then some (kw iid id since stp cl seen es xs st) else none
    |_=>none)
   |some (.it (.d (.v (.map none))) _ _ _)=>some [(.tu [.d (.v (.bool false))],st)]
   |_=>none)
  |_=>none)
 |_=>none
section
variable{P:Program}{env:Env}{st:List AO}{dst:Option Tmp}{ty:TypeId}{pos:String}{after:Array Edge}{guard:Option (Nat×Bool)}
theorem uQ{κ:Type}[DecidableEq κ]{dk:Value→Option κ}{kf:κ→Value}(hd:∀v k,dk v=some k→v=kf k){kt:TypeId}(hK:KeyX P kt kf){es:List (Value×Nat)}{xs:List AV}{zv kv:Value}{r:AV×Bool}(h:lkG dk es xs zv kv=some r)
  {m φ w}{l:List MapEntry}(q2:l.map (λe=>(e.key,e.born))=es)(q3:RAs m φ w xs (l.map (·.val))):
  (∀w' em,(Instr.checkKey em 10000 kt kv).run P w'= .ok () w')∧((r=(dV zv,false)∧∀w',(Instr.findKey kt kv l).run P w'= .ok none w')∨∃j v,r.2=true∧RA m φ w r.1 v∧∀w',(Instr.findKey kt kv l).run P w'= .ok (some (j,v)) w'):=by
 unfold lkG at h
 split at h
 ·rename_i k L hk hL
  have e1:=hd _ _ hk
  subst e1
  have hkeys:l.map (·.key)=L.map kf:=by rw[←mm hd hL,←q2,List.map_map];rfl
  have hf:=λw'=>hK.find k L l w' hkeys
  refine⟨λw' em=>hK.chk em k w',?_⟩
  split at h
  ·rename_i j hj
   split at h
   ·rename_i x hx
    obtain rfl:=inS h
    obtain⟨v,h1,h2⟩:=bQ q3 hx
    rw[List.getElem?_map,Option.map_eq_some_iff] at h1
    obtain⟨e,h3,rfl⟩:=h1
    refine .inr ⟨j,e.val,rfl,h2,λw'=>?_⟩
    rw[hf w',hj,bnS,h3,Option.map_some]
   ·cases h
  ·rename_i hj
   obtain rfl:=inS h
   exact .inl ⟨rfl,λw'=>by rw[hf w',hj,Option.bind_none]⟩
 ·cases h
theorem uR{kt:TypeId}{es:List (Value×Nat)}{xs:List AV}{zv kv:Value}{r:AV×Bool}(h:lkD P kt es xs zv kv=some r)
  {m φ w}{l:List MapEntry}(q2:l.map (λe=>(e.key,e.born))=es)(q3:RAs m φ w xs (l.map (·.val))):
  (∀w' em,(Instr.checkKey em 10000 kt kv).run P w'= .ok () w')∧((r=(dV zv,false)∧∀w',(Instr.findKey kt kv l).run P w'= .ok none w')∨∃j v,r.2=true∧RA m φ w r.1 v∧∀w',(Instr.findKey kt kv l).run P w'= .ok (some (j,v)) w'):=by
 unfold lkD at h
 split at h
 ·rename_i hk;exact uQ (λ_ _=>vz) (sc hk) h q2 q3
 ·rename_i hk;exact uQ (λ_ _=>vy) (rZ hk) h q2 q3
 ·cases h
theorem zD{T:TypeId}{x ki:Operand}{c:Bool}{r:AV}(h:lkX P env st T x ki c=some r):Yields P env st ⟨dst, .lookup T x ki c,ty,pos,after,guard⟩ r:=λm φ a w hs he=>by
 unfold lkX at h
 split at h
 ·rename_i kt et xr kv hT hx hk
  obtain⟨ka,hk1,hk2⟩:=bF hk
  have hkv:a.eval ki=kv:=rY hk2 (aN he hk1)
  have htu:∀{r0:AV×Bool}{v:Value},RA m φ w r0.1 v→RA m φ w (tuB c r0) (if c then .tuple #[v, .bool r0.2] else v):=λ{r0 v} h9=>by
   cases c with
   |true=>simp only[tuB,cdT,if_true,RA];exact⟨_,rfl,aK h9 (aK RAv bB)⟩
   |false=>simpa[tuB] using h9
  split at h
  ·rename_i zv id hz
   cases hinf:P.info? et with
   |none=>simp[hinf] at hz
   |some inf=>
    simp only[hinf,bnS] at hz
    split at h
    ·rename_i es xs cl hst
     split at h
     ·rename_i r0 hr0
      obtain rfl:=inS h
      obtain⟨b,h1,h2⟩:=fH he hx
      obtain⟨b',hbb,h0,l,g1,g2,g3⟩:=hs.obj id _ _ hst h1
      simp only[Cz.blk.injEq] at hbb
      subst hbb
      have hlt:=bu g1
      obtain⟨p1,p2⟩:=uR hr0 g2 g3
      rcases p2 with⟨rfl,p2⟩|⟨j,v,p2,p3,p4⟩
      ·refine⟨if c then .tuple #[zv, .bool false] else zv,htu (ii zv),λw' hb=>?_⟩
       have g1':w'.heap[b]? =some (.map ⟨l⟩ cl):=by rw[hb.block b hlt];exact g1
       simp[execOp,Instr.lookup,h2,hkv,run_underlying hT,MapKept.run_getObj_map g1',p1,p2,zeroValue,typeInfo,hinf,hz,Result.andThen]
      ·refine⟨if c then .tuple #[v, .bool true] else v,by have:=htu p3;rw[p2] at this;exact this,λw' hb=>?_⟩
       have g1':w'.heap[b]? =some (.map ⟨l⟩ cl):=by rw[hb.block b hlt];exact g1
       simp[execOp,Instr.lookup,h2,hkv,run_underlying hT,MapKept.run_getObj_map g1',p1,p4,Result.andThen]
     ·cases h
    ·cases h
  ·rename_i zv hz
   cases hinf:P.info? et with
   |none=>simp[hinf] at hz
   |some inf=>
    simp only[hinf,bnS] at hz
    split at h
    ·rename_i r0 hr0
     obtain rfl:=inS h
     have h2:=aI he hx
     obtain⟨p1,p2⟩:=uR (m:=m) (φ:=φ) (w:=w) (l:=[]) hr0 rfl bB
     rcases p2 with⟨rfl,p2⟩|⟨j,v,p2,p3,p4⟩
     ·refine⟨if c then .tuple #[zv, .bool false] else zv,htu (ii zv),λw' hb=>?_⟩
      simp[execOp,Instr.lookup,h2,hkv,run_underlying hT,p1,p2,zeroValue,typeInfo,hinf,hz,Result.andThen]
     ·refine⟨if c then .tuple #[v, .bool true] else v,by have:=htu p3;rw[p2] at this;exact this,λw' hb=>?_⟩
      simp[execOp,Instr.lookup,h2,hkv,run_underlying hT,p1,p4,Result.andThen]
    ·cases h
  ·cases h
 ·cases h
end
theorem xc{m φ w}{st:List AO}{id b cl cl':Nat}{es es':List (Value×Nat)}{xs xs':List AV}{l:List MapEntry}(hs:SR m φ st w)(hi:st[id]? =some (.mb es xs cl))(hb:m[id]? =some (.blk b))(hkeys:l.map (λe=>(e.key,e.born))=es')(hv:RAs m φ w xs' (l.map (·.val))):
  Ev m φ w m φ { w with heap:=w.heap.setIfInBounds b (.map ⟨l⟩ cl') }∧SR m φ (st.set id (.mb es' xs' cl')) { w with heap:=w.heap.setIfInBounds b (.map ⟨l⟩ cl') }:=by
 obtain⟨b',hbb,h0,l0,h1,h2,h3⟩:=hs.obj id _ _ hi hb
 simp only[Cz.blk.injEq] at hbb
 subst hbb
 have hlt:=bu h1
 have hne:∀b2,b2≠b→(w.heap.setIfInBounds b (.map ⟨l⟩ cl'))[b2]? =w.heap[b2]? :=λb2 hn=>by simp[Ne.symm hn]
 have hF:Fz φ w φ { w with heap:=w.heap.setIfInBounds b (.map ⟨l⟩ cl') }:=λb2 off c g1 g2=>⟨g1,by
  have hn:b2≠b:=λe=>by subst e;omega
  rw[aP (w':={ w with heap:=w.heap.setIfInBounds b (.map ⟨l⟩ cl') }) (hne b2 hn)];exact g2⟩
 have hset:m.set id (.blk b)=m:=by
  apply List.ext_getElem?
  intro i
  by_cases hii:id=i
  ·subst hii;rw[List.getElem?_set_self (giS.1 hb).1,hb]
  ·rw[List.getElem?_set_ne hii]
 have:=dv (w':={ w with heap:=w.heap.setIfInBounds b (.map ⟨l⟩ cl') }) (φ':=φ) (o':= .mb es' xs' cl') (c':= .blk b) hs hi rfl hb rfl rfl rfl rfl sM (λb2 hb2 hn=>⟨hne b2 (λe=>hn (by rw[e];rfl)),rfl⟩) hF (λb2 hb2=>hs.lt b2 (by simpa using hb2)) (λb2 hb2=> .inl hb2)
  (by rw[hset];exact⟨b,rfl,h0,l,by simp[hlt],hkeys,RAs.mono (Pre.refl m) hF _ _ hv⟩)
 rwa [hset] at this
section
variable{P:Program}{env:Env}{st:List AO}{dst:Option Tmp}{ty:TypeId}{pos:String}{after:Array Edge}{guard:Option (Nat×Bool)}
theorem uD{κ:Type}[DecidableEq κ]{dk:Value→Option κ}{kf:κ→Value}(hd:∀v k,dk v=some k→v=kf k){T kt et:TypeId}(hK:KeyX P kt kf)(hT:P.underlying T=some (.map kt et)){es:List (Value×Nat)}{xs:List AV}{cl:Nat}{kv:Value}{uu:AV}{o':AO}
  (h:muG dk es xs cl kv uu=some o'){m φ w}{b:Nat}{val:Value}{l:List MapEntry}(hb:w.heap[b]? =some (.map ⟨l⟩ cl))(q2:l.map (λe=>(e.key,e.born))=es)(q3:RAs m φ w xs (l.map (·.val)))(hu:RA m φ w uu val):
  ∃l' cl' es' xs',o'= .mb es' xs' cl'∧(Instr.mapUpdate T (.map (some b)) kv val).run P w= .ok () { w with heap:=w.heap.setIfInBounds b (.map ⟨l'⟩ cl') }∧l'.map (λe=>(e.key,e.born))=es'∧RAs m φ w xs' (l'.map (·.val)):=by
 unfold muG at h
 split at h
 ·rename_i k L hk hL
  have e1:=hd _ _ hk
  subst e1
  have hkeys:l.map (·.key)=L.map kf:=by rw[←mm hd hL,←q2,List.map_map];rfl
  have hf:=hK.find k L l w hkeys
  split at h
  ·rename_i j hj
   obtain rfl:=inS h
   have hLj:=se hj
   have hlj:(l.map (·.key))[j]? =some (kf k):=by rw[hkeys,List.getElem?_map,hLj];rfl
   rw[List.getElem?_map,Option.map_eq_some_iff] at hlj
   obtain⟨e,he,hek⟩:=hlj
   rw[hj,bnS,he,Option.map_some] at hf
   refine⟨l.modify j (λe'=>{ e' with key:=kf k,val:=val }),cl,es,_,rfl,?_,?_,?_⟩
   ·simp[Instr.mapUpdate,run_underlying hT,MapKept.run_getObj_map hb,hK.chk,hf,he,hek,hK.stays,MapKept.run_setObj_map _ hb,Result.andThen]
   ·rw[←q2]
    apply List.ext_getElem?
    intro i
    rw[List.getElem?_map,List.getElem?_map,List.getElem?_modify]
    by_cases hij:j=i
    ·subst hij;simp[he,hek]
    ·simp[hij]
   ·have:(l.modify j (λe'=>{ e' with key:=kf k,val:=val })).map (·.val)=(l.map (·.val)).set j val:=by
     apply List.ext_getElem?
     intro i
     rw[List.getElem?_map,List.getElem?_modify,List.getElem?_set]
     by_cases hij:j=i
     ·subst hij;simp[he,(giS.1 he).1]
     ·simp[hij]
    rw[this]
    exact jW q3 hu
  ·rename_i hj
   obtain rfl:=inS h
   rw[hj,Option.bind_none] at hf
   refine⟨l++ [⟨kf k,val,cl⟩],cl+1,_,_,rfl,?_,by simp[q2],by rw[List.map_append];exact aE q3 (aK hu bB)⟩
   simp[Instr.mapUpdate,run_underlying hT,MapKept.run_getObj_map hb,hK.chk,hf,MapKept.run_setObj_map _ hb,Result.andThen]
 ·cases h
theorem uC{T:TypeId}{x ki v:Operand}{o:Oper}{r:AV}{st':List AO}(ho:o=⟨dst, .insert T x ki v,ty,pos,after,guard⟩∨o=⟨dst, .mapUpdate T x ki v,ty,pos,after,guard⟩)(h:muX P env st T x ki v=some (r,st')):Does P env st o r st':=λm φ a w hs he=>by
 unfold muX at h
 split at h
 ·rename_i kt et id kv uu hT hx hk hv
  obtain⟨ka,hk1,hk2⟩:=bF hk
  have hkv:a.eval ki=kv:=rY hk2 (aN he hk1)
  split at h
  ·rename_i es xs cl hst
   obtain⟨b,h1,h2⟩:=fH he hx
   obtain⟨b',hbb,h0,l,g1,g2,g3⟩:=hs.obj id _ _ hst h1
   simp only[Cz.blk.injEq] at hbb
   subst hbb
   have hu:=aN he hv
   split at h
   ·rename_i o' ho'
    simp only[am,Prod.mk.injEq] at h
    obtain⟨rfl,rfl⟩:=h
    have key:∃l' cl' es' xs',o'= .mb es' xs' cl'∧(Instr.mapUpdate T (.map (some b)) kv (a.eval v)).run P w= .ok () { w with heap:=w.heap.setIfInBounds b (.map ⟨l'⟩ cl') }∧l'.map (λe=>(e.key,e.born))=es'∧RAs m φ w xs' (l'.map (·.val)):=by
     split at ho'
     ·rename_i hd;exact uD (λ_ _=>vz) (sc hd) hT ho' g1 g2 g3 hu
     ·rename_i hd;exact uD (λ_ _=>vy) (rZ hd) hT ho' g1 g2 g3 hu
     ·cases ho'
    obtain⟨l',cl',es',xs',rfl,k1,k2,k3⟩:=key
    obtain⟨p1,p2⟩:=xc (cl':=cl') hs hst h1 k2 k3
    refine⟨undef,_,m,φ, .inr ⟨?_,rfl⟩,p1,p2,RAv⟩
    rcases ho with rfl|rfl<;>simp[execOp,h2,hkv,k1]
   ·cases h
  ·cases h
 ·cases h
theorem uG{T:TypeId}:DoesB P env st ⟨dst, .makeMap T none,ty,pos,after,guard⟩ (.mp st.length) (st++ [.mb [] [] 0]):=λm φ a w hs he=>by
 have hF:=Fz.alloc hs (.map #[] 0)
 have hk:∀b,b<w.heap.size→(w.alloc (.map #[] 0)).heap[b]? =w.heap[b]? :=λb hb=>bh hb
 have hnew:∀b,(Cz.blk w.heap.size).has b→w.heap.size≤b:=λb hb=>by simp only[Cz.has] at hb;omega
 refine⟨.map (some w.heap.size),w.alloc (.map #[] 0),m++ [.blk w.heap.size],φ,rfl,Ev.push hs hF hk sM rfl rfl rfl hnew,SR.push hs hF hk sM ?_ hnew,?_,(Below.refl _ _).alloc (Nat.le_refl _) _⟩
 ·exact⟨w.heap.size,rfl,hs.lt _ (Nat.le_refl _),[],heap_alloc_new w _,rfl,bB⟩
 ·simp only[RA];exact⟨_,by rw[←hs.len];simp,rfl⟩
theorem uv{T:TypeId}{x:Operand}{r:AV}{st':List AO}(h:rgX P env st T x=some (r,st')):Does P env st ⟨dst, .range T x,ty,pos,after,guard⟩ r st':=λm φ a w hs he=>by
 have hnew:∀b,(Cz.blk w.heap.size).has b→w.heap.size≤b:=λb hb=>by simp only[Cz.has] at hb;omega
 unfold rgX at h
 split at h
 ·rename_i kt et id hT hx
  split at h
  ·rename_i es xs cl hst
   simp only[am,Prod.mk.injEq] at h
   obtain⟨rfl,rfl⟩:=h
   have hra:=aN he hx
   obtain⟨b,h1,h2⟩:=fH he hx
   obtain⟨b',hbb,h0,l,g1,g2,g3⟩:=hs.obj id _ _ hst h1
   simp only[Cz.blk.injEq] at hbb
   subst hbb
   have hF:=Fz.alloc hs (.mapIter (some b) cl #[] cl)
   have hk:∀c,c<w.heap.size→(w.alloc (.mapIter (some b) cl #[] cl)).heap[c]? =w.heap[c]? :=λc hc=>bh hc
   rw[h2] at hra
   refine⟨.pointer (some ⟨w.heap.size,0,none⟩),w.alloc (.mapIter (some b) cl #[] cl),m++ [.blk w.heap.size],φ, .inl ?_,Ev.push hs hF hk sM rfl rfl rfl hnew,SR.push hs hF hk sM ⟨_,rfl,hs.lt _ (Nat.le_refl _),some b,heap_alloc_new w _,RA.mono (Pre.append m _) hF _ _ hra⟩ hnew,?_⟩
   ·simp[execOp,h2,Instr.range,run_underlying hT,MapKept.run_getObj_map g1]
   ·simp only[RA];exact⟨_,by rw[←hs.len];simp,rfl⟩
  ·cases h
 ·rename_i kt et hT hx
  simp only[am,Prod.mk.injEq] at h
  obtain⟨rfl,rfl⟩:=h
  have h2:=aI he hx
  have hF:=Fz.alloc hs (.mapIter none 0 #[] 0)
  have hk:∀c,c<w.heap.size→(w.alloc (.mapIter none 0 #[] 0)).heap[c]? =w.heap[c]? :=λc hc=>bh hc
  refine⟨.pointer (some ⟨w.heap.size,0,none⟩),w.alloc (.mapIter none 0 #[] 0),m++ [.blk w.heap.size],φ, .inl ?_,Ev.push hs hF hk sM rfl rfl rfl hnew,SR.push hs hF hk sM ⟨_,rfl,hs.lt _ (Nat.le_refl _),none,heap_alloc_new w _,RAv⟩ hnew,?_⟩
  ·simp[execOp,h2,Instr.range,run_underlying hT]
  ·simp only[RA];exact⟨_,by rw[←hs.len];simp,rfl⟩
 ·cases h
theorem mF{s:Nat}:∀{es:List (Value×Nat)}{l:List MapEntry}{j:Nat},l.map (λe=>(e.key,e.born))=es→mG es s=some j→∃e,l[j]? =some e∧l.find? (·.born==s)=some e
 |[],l,j,_,h=>by cases h
 |p::es,[],j,hl,h=>by simp at hl
 |p::es,e::l,j,hl,h=>by
  simp only[List.map_cons,List.cons.injEq] at hl
  obtain⟨rfl,hl⟩:=hl
  unfold mG at h
  cases hb:Nat.beq e.born s with
  |true=>
   rw[hb] at h
   obtain rfl:=inS h
   refine⟨e,rfl,?_⟩
   have:=nbE hb
   rw[List.find?_cons_of_pos (by simp[this])]
  |false=>
   rw[hb,cdF] at h
   split at h
   ·rename_i i hi
    obtain rfl:=inS h
    obtain⟨e',h1,h2⟩:=mF hl hi
    refine⟨e',by simpa using h1,?_⟩
    rw[List.find?_cons_of_neg (by intro hh;rw[beq_iff_eq] at hh;rw[hh] at hb;simp at hb)]
    exact h2
   ·cases h
theorem vu{x:Operand}{r:AV}(h:enX env st x=some r):Yields P env st ⟨dst, .entry x,ty,pos,after,guard⟩ r:=λm φ a w hs he=>by
 unfold enX at h
 split at h
 ·rename_i iid hx
  split at h
  ·rename_i id since seen stp hit
   split at h
   ·rename_i s es xs cl hseen hmb
    cases hc:Nat.beq cl stp with
    |false=>rw[hc] at h;cases h
    |true=>
     rw[hc,cdT] at h
     have hc:=nbE hc
     subst hc
     split at h
     ·rename_i j hj
      split at h
      ·rename_i p r0 hp hr0
       obtain rfl:=inS h
       obtain⟨b,g1,g2⟩:=fc he hx
       obtain⟨b',hbb,h0,sb,g3,g4⟩:=hs.obj iid _ _ hit g1
       simp only[Cz.blk.injEq] at hbb
       subst hbb
       simp only[RA] at g4
       obtain⟨mb,g5,g6⟩:=g4
       simp only[Value.map.injEq] at g6
       subst g6
       obtain⟨b2,hb2,q0,l,q1,q2,q3⟩:=hs.obj id _ _ hmb g5
       simp only[Cz.blk.injEq] at hb2
       subst hb2
       obtain⟨e,k1,k2⟩:=mF q2 hj
       have hpe:p=(e.key,e.born):=by
        have:(l.map (λe=>(e.key,e.born)))[j]? =some (e.key,e.born):=by rw[List.getElem?_map,k1];rfl
        rw[q2,hp] at this
        exact inS this
       subst hpe
       obtain⟨v,v1,v2⟩:=bQ q3 hr0
       rw[List.getElem?_map,k1,Option.map_some,am] at v1
       subst v1
       refine⟨.tuple #[e.key,e.val],by simp only[RA];exact⟨_,rfl,aK (ii _) (aK v2 bB)⟩,λw' hb=>?_⟩
       have e1:w'.heap[b]? =some (.mapIter (some mb) since ⟨seen⟩ cl):=by rw[hb.block b (bu g3)];exact g3
       have e2:w'.heap[mb]? =some (.map ⟨l⟩ cl):=by rw[hb.block mb (bu q1)];exact q1
       have f1:(getObj b).run P w'= .ok (.mapIter (some mb) since ⟨seen⟩ cl) w':=by simp[getObj,Sem.run,e1]
       have f2:(getObj mb).run P w'= .ok (.map ⟨l⟩ cl) w':=by simp[getObj,Sem.run,e2]
       have f3:(⟨seen⟩:Array Nat).back? =some s:=by rw[←hseen];simp[Array.back?,List.getLast?_eq_getElem?]
       have f4:(⟨l⟩:Array MapEntry).find? (·.born==s)=some e:=by rw[←Array.find?_toList];exact k2
       simp[execOp,g2,Instr.entry,f1,f2,f3,f4]
      ·cases h
     ·cases h
   ·cases h
  ·cases h
 ·cases h
def sY(P:Program)(env:Env)(st:List AO)(o:Oper)(outs:List (AV×List AO)):Prop:=
 ∀m φ a w,SR m φ st w→EnvOk m φ w env a→∃v w' m' φ' p,p∈outs∧(execOp a.eval o).run P w= .ok (.value v) w'∧Ev m φ w m' φ' w'∧SR m' φ' p.2 w'∧RA m' φ' w' p.1 v
theorem WL.sN{e:En}{ops:Array Oper}{rest:List Oper}{o:Oper}{d:Nat}{R:Env→List AO→Prop}{outs:List (AV×List AO)}(hy:sY P env st o outs)(hw:Wt ops env o true)(ho:o.dst=some d)(hd:Nat.ble (d+1) e.n=true)(h:∀p∈outs,WL P e ops rest ((d,p.1)::env) p.2 R):WL P e ops (o::rest) env st R:=λm φ a w hi=>by
 obtain⟨v,w',m',φ',p,h0,h1,h2,h3,h4⟩:=hy m φ a w hi.sr hi.env
 have hi':=hi.ev_put (d:=d) h2 h3 (nbT hd) h4
 unfold eJ
 rw[if_pos (hw _ _ _ _ hi.env)]
 refine .inl ?_
 simp only[Oper.wp,h1,Oper.upon,ho]
 exact h p h0 m' φ' _ w' hi'
theorem SR.drew{m:List Cz}{φ:Nat→Nat}{w:World}(hs:SR m φ st w):SR m φ st w.drew:=hs.of_keep (λ_ _=>⟨rfl,rfl⟩) (λ_ _ _ h1 h2=>⟨h1,h2⟩) hs.lt
theorem itSet{m φ w}{iid b since stp stp':Nat}{seen seen':List Nat}{src:AV}{sb:Option Nat}(hs:SR m φ st w)(hi:st[iid]? =some (.it src since seen stp))(hb:m[iid]? =some (.blk b))(hsrc:RA m φ w src (.map sb)):
  Ev m φ w m φ { w with heap:=w.heap.setIfInBounds b (.mapIter sb since ⟨seen'⟩ stp') }∧SR m φ (st.set iid (.it src since seen' stp')) { w with heap:=w.heap.setIfInBounds b (.mapIter sb since ⟨seen'⟩ stp') }:=by
 obtain⟨b',hbb,h0,sb0,h1,h2⟩:=hs.obj iid _ _ hi hb
 simp only[Cz.blk.injEq] at hbb
 subst hbb
 have hlt:=bu h1
 have hne:∀b2,b2≠b→(w.heap.setIfInBounds b (.mapIter sb since ⟨seen'⟩ stp'))[b2]? =w.heap[b2]? :=λb2 hn=>by simp[Ne.symm hn]
 have hF:Fz φ w φ { w with heap:=w.heap.setIfInBounds b (.mapIter sb since ⟨seen'⟩ stp') }:=λb2 off c g1 g2=>⟨g1,by
  have hn:b2≠b:=λe=>by subst e;omega
  rw[aP (w':={ w with heap:=w.heap.setIfInBounds b (.mapIter sb since ⟨seen'⟩ stp') }) (hne b2 hn)];exact g2⟩
 have hset:m.set iid (.blk b)=m:=by
  apply List.ext_getElem?
  intro i
  by_cases hii:iid=i
  ·subst hii;rw[List.getElem?_set_self (giS.1 hb).1,hb]
  ·rw[List.getElem?_set_ne hii]
 have:=dv (w':={ w with heap:=w.heap.setIfInBounds b (.mapIter sb since ⟨seen'⟩ stp') }) (φ':=φ) (o':= .it src since seen' stp') (c':= .blk b) hs hi rfl hb rfl rfl rfl rfl sM (λb2 hb2 hn=>⟨hne b2 (λe=>hn (by rw[e];rfl)),rfl⟩) hF (λb2 hb2=>hs.lt b2 (by simpa using hb2)) (λb2 hb2=> .inl hb2)
  (by rw[hset];exact⟨b,rfl,h0,sb,by simp[hlt],RA.mono (Pre.refl m) hF _ _ hsrc⟩)
 rwa [hset] at this
theorem qJ{w:World}{n:Nat}(hn:0<n):∃j w1,j<n∧(w1=w∨w1=w.drew)∧(choose (.mapNext n)).run P w= .ok j w1:=by
 by_cases hf:n≤1
 ·exact⟨0,w,oM, .inl rfl,by simp[choose,Sem.run,Question.forced,hf]⟩
 ·exact⟨_,w.drew,Nat.mod_lt _ oM, .inr rfl,by
   simp only[choose,Sem.run,Question.forced,decide_eq_true_eq,hf,if_false,Question.cut]
   rfl⟩
theorem yj{x:Operand}{iid id since stp cl:Nat}{seen:List Nat}{es:List (Value×Nat)}{xs:List AV}(hx:opv env x=some (.pt iid 0))(hit:st[iid]? =some (.it (.mp id) since seen stp))(hmb:st[id]? =some (.mb es xs cl))
  (ht:(!seen.isEmpty&&(!es.isEmpty&&es.all λp=>Nat.ble stp p.2))=false):sY P env st ⟨dst, .next x false,ty,pos,after,guard⟩ (kw iid id since stp cl seen es xs st):=λm φ a w hs he=>by
 obtain⟨b,g1,g2⟩:=fc he hx
 obtain⟨b',hbb,h0,sb,g3,g4⟩:=hs.obj iid _ _ hit g1
 simp only[Cz.blk.injEq] at hbb
 subst hbb
 have g4':=g4
 simp only[RA] at g4
 obtain⟨mb,g5,g6⟩:=g4
 simp only[Value.map.injEq] at g6
 subst g6
 obtain⟨b2,hb2,q0,l,q1,q2,q3⟩:=hs.obj id _ _ hmb g5
 simp only[Cz.blk.injEq] at hb2
 subst hb2
 have f1:(getObj b).run P w= .ok (.mapIter (some mb) since ⟨seen⟩ stp) w:=by simp[getObj,Sem.run,g3]
 have f2:(getObj mb).run P w= .ok (.map ⟨l⟩ cl) w:=by simp[getObj,Sem.run,q1]
 have f3:(!(⟨seen⟩:Array Nat).isEmpty&& !(⟨l⟩:Array MapEntry).isEmpty&&(⟨l⟩:Array MapEntry).all (λx=>decide (x.born≥stp)))=false:=by
  rw[←q2] at ht
  rw[←ht]
  have hb:∀e:MapEntry,decide (e.born≥stp)=Nat.ble stp e.born:=λe=>by rw[Bool.eq_iff_iff];simp[Nat.ble_eq]
  simp[List.all_map,Bool.and_assoc,Function.comp_def,hb]
 -- what is left
 have hlen:es.length=l.length:=by rw[←q2,List.length_map]
 have hout:∀e∈l,seen.contains e.born=false→∃r,RA m φ w r e.val∧(AV.tu [.d (.v (.bool true)),dV e.key,r],st.set iid (.it (.mp id) since (seen++ [e.born]) cl))∈kw iid id since stp cl seen es xs st:=λe he hse=>by
  obtain⟨j,hj⟩:=List.mem_iff_getElem?.1 he
  have hxl:xs.length=l.length:=by have:=aJ q3;rw[List.length_map] at this;exact this.symm
  have hjl:j<xs.length:=by rw[hxl];exact(giS.1 hj).1
  have hx0:xs[j]? =some xs[j]:=geG hjl
  obtain⟨v,v1,v2⟩:=bQ q3 hx0
  rw[List.getElem?_map,hj,Option.map_some,am] at v1
  subst v1
  refine⟨xs[j],v2,List.mem_append_right _ (List.mem_filterMap.2 ⟨((e.key,e.born),xs[j]),?_,by rw[hse];rfl⟩)⟩
  refine List.mem_iff_getElem?.2 ⟨j,?_⟩
  rw[List.getElem?_zip_eq_some]
  exact⟨by rw[←q2,List.getElem?_map,hj];rfl,hx0⟩
 have hover:(∀e∈l,seen.contains e.born=false→¬e.born<since)→(AV.tu [.d (.v (.bool false))],st)∈kw iid id since stp cl seen es xs st:=λh=>by
  have:es.all (λp=>seen.contains p.2|| !(Nat.blt p.2 since))=true:=by
   rw[←q2,List.all_map,List.all_eq_true]
   intro e he
   show(seen.contains e.born|| !(Nat.blt e.born since))=true
   cases hse:seen.contains e.born with
   |true=>rfl
   |false=>
    have h1:=h e he hse
    cases hb:Nat.blt e.born since with
    |false=>rfl
    |true=>exact absurd (by simpa[Nat.blt_eq] using hb) h1
  unfold kw
  rw[this]
  simp
 have hrun:(execOp a.eval ⟨dst, .next x false,ty,pos,after,guard⟩).run P w=(((Instr.next (.pointer (some ⟨b,0,none⟩)) false ty).run P w).andThen λv w'=> .ok (.value v) w'):=by
  simp[execOp,g2]
 rw[hrun]
 simp only[Instr.next,Sem.run_bind,f1,f2,Result.andThen_ok,f3,Bool.false_eq_true,if_false]
 generalize hL:Array.filter (λe:MapEntry=> !(⟨seen⟩:Array Nat).contains e.born) ⟨l⟩=L
 have hLm:∀e:MapEntry,e∈L↔e∈l∧seen.contains e.born=false:=λe=>by
  rw[←hL,Array.mem_filter]
  simp
 generalize hC:((if(Array.filter (λx:MapEntry=>decide (x.born<since)) L).isEmpty=true then #[none] else #[])++Array.map some (Array.filter (λx:MapEntry=>decide (x.born<since)) L++Array.filter (λx:MapEntry=>decide (x.born≥since)) L):Array (Option MapEntry))=C
 have hsome:∀e:MapEntry,some e∈C→e∈L:=λe he=>by
  rw[←hC] at he
  rcases Array.mem_append.1 he with he|he
  ·split at he<;>simp at he
  ·obtain⟨e',h1,h2⟩:=Array.mem_map.1 he
   obtain rfl:=inS h2
   rcases Array.mem_append.1 h1 with h1|h1<;>exact(Array.mem_filter.1 h1).1
 have hnone:none∈C→∀e∈L,¬e.born<since:=λhe e hel hlt=>by
  rw[←hC] at he
  rcases Array.mem_append.1 he with he|he
  ·split at he
   ·rename_i hemp
    have:e∈Array.filter (λx:MapEntry=>decide (x.born<since)) L:=Array.mem_filter.2 ⟨hel,dcT hlt⟩
    rw[Array.isEmpty_iff.1 hemp] at this
    simp at this
   ·simp at he
  ·obtain⟨e',_,h2⟩:=Array.mem_map.1 he
   cases h2
 have hpos:0<C.size:=by
  rw[←hC,Array.size_append,Array.size_map,Array.size_append]
  split
  ·simp;omega
  ·rename_i hemp
   have:(Array.filter (λx:MapEntry=>decide (x.born<since)) L).size≠0:=λh0=>hemp (by rw[Array.eq_empty_of_size_eq_zero h0];rfl)
   omega
 obtain⟨j,w1,hj,hal,hrun1⟩:=qJ (P:=P) (w:=w) hpos
 have hget:C[j]? =some C[j]:=Array.getElem?_eq_getElem hj
 have hmem:C[j]∈C:=Array.getElem_mem hj
 have hs1:SR m φ st w1:=by rcases hal with rfl|rfl;exact hs;exact hs.drew
 have hev1:∀{w2:World},Ev m φ w1 m φ w2→Ev m φ w m φ w2:=λ{w2} k=>by
  rcases hal with rfl|rfl
  ·exact k
  ·exact⟨k.pre,k.new,k.os,k.tape,k.output,k.size,k.keep,k.fz⟩
 simp only[hrun1,Result.andThen_ok,hget]
 cases hcj:C[j] with
 |none=>
  rw[hcj] at hmem
  exact⟨.tuple #[.bool false],w1,m,φ,_,hover (λe he hse=>hnone hmem e ((hLm e).2 ⟨he,hse⟩)),sM,hev1 (Ev.refl m φ w1),hs1,by simp[RA,RAs,RD]⟩
 |some e=>
  rw[hcj] at hmem
  obtain⟨hel,hes⟩:=(hLm e).1 (hsome e hmem)
  obtain⟨r,hr1,hr2⟩:=hout e hel hes
  obtain⟨k1,k2⟩:=itSet (seen':=seen++ [e.born]) (stp':=cl) hs1 hit g1 g4'
  have hb1:w1.heap[b]? =some (.mapIter (some mb) since ⟨seen⟩ stp):=by rcases hal with rfl|rfl<;>exact g3
  have hset:(setObj b (Obj.mapIter (some mb) since ((⟨seen⟩:Array Nat).push e.born) cl)).run P w1= .ok () { w1 with heap:=w1.heap.setIfInBounds b (.mapIter (some mb) since ⟨seen++ [e.born]⟩ cl) }:=by
   simp[setObj,Sem.run,hb1]
  refine⟨.tuple #[.bool true,e.key,e.val],_,m,φ,_,hr2,?_,hev1 k1,k2,?_⟩
  ·simp only[Sem.run_bind,hset,Result.andThen_ok,Sem.run_pure]
  ·have h1:=RA.mono (hev1 k1).pre (hev1 k1).fz _ _ hr1
   simp only[RA]
   exact⟨_,rfl,aK RAv (aK (ii _) (aK h1 bB))⟩
theorem zt{x:Operand}{iid since stp:Nat}{seen:List Nat}(hx:opv env x=some (.pt iid 0))(hit:st[iid]? =some (.it (.d (.v (.map none))) since seen stp)):sY P env st ⟨dst, .next x false,ty,pos,after,guard⟩ [(.tu [.d (.v (.bool false))],st)]:=λm φ a w hs he=>by
 obtain⟨b,g1,g2⟩:=fc he hx
 obtain⟨b',hbb,h0,sb,g3,g4⟩:=hs.obj iid _ _ hit g1
 simp only[Cz.blk.injEq] at hbb
 subst hbb
 simp only[RA,RD,Value.map.injEq] at g4
 subst g4
 have f1:(getObj b).run P w= .ok (.mapIter none since ⟨seen⟩ stp) w:=by simp[getObj,Sem.run,g3]
 refine⟨.tuple #[.bool false],w,m,φ,_,List.mem_singleton.2 rfl,?_,Ev.refl m φ w,hs,by simp[RA,RAs,RD]⟩
 simp[execOp,g2,Instr.next,f1]
end
def my{ε σ:Type}(step:ε→σ→Option σ):List ε→σ→Option σ
 |[],s=>some s
 |x::l,s=>(step x s).bind (my step l)
def AllO{ε σ β:Type}(L:List ε)(step:ε→σ→Option σ)(K:σ→Option β)(s:σ)(r:β):Prop:=∀l,l.Perm L→(my step l s).bind K=some r
open Classical in
noncomputable def gK{ε σ β:Type}(L:List ε)(step:ε→σ→Option σ)(K:σ→Option β)(s:σ):Option β:=if h:∃r,AllO L step K s r then some h.choose else none
theorem qM{ε σ β:Type}{L:List ε}{step:ε→σ→Option σ}{K:σ→Option β}{s:σ}{r:β}(h:gK L step K s=some r):AllO L step K s r:=by
 unfold gK at h
 split at h
 ·rename_i h'
  have:=h'.choose_spec
  rw[inS h] at this
  exact this
 ·cases h
theorem tp{ε σ β:Type}{L:List ε}{step:ε→σ→Option σ}{K:σ→Option β}{s:σ}{r:β}(h:AllO L step K s r):gK L step K s=some r:=by
 have h':∃r,AllO L step K s r:=⟨r,h⟩
 have h2:=h'.choose_spec L (List.Perm.refl L)
 unfold gK
 rw[dif_pos h',←h2]
 exact h L (List.Perm.refl L)
theorem AllO.nil{ε σ β:Type}{step:ε→σ→Option σ}{K:σ→Option β}{s:σ}{r:β}(h:AllO [] step K s r):K s=some r:=h [] (List.Perm.refl _)
theorem AllO.cons{ε σ β:Type}{L R:List ε}{x:ε}{step:ε→σ→Option σ}{K:σ→Option β}{s:σ}{r:β}(h:AllO R step K s r)(hp:R.Perm (x::L)):∃s1,step x s=some s1∧AllO L step K s1 r:=by
 cases hs:step x s with
 |none=>
  have:=h (x::L) hp.symm
  rw[my,hs] at this
  cases this
 |some s1=>
  refine⟨s1,rfl,λl hl=>?_⟩
  have:=h (x::l) ((hl.cons x).trans hp.symm)
  rwa [my,hs,bnS] at this
def kV{ε:Type}(L:List ε)(seen:List Nat):List ε:=(L.zipIdx.filter λp=> !seen.contains p.2).map (·.1)
theorem nh{ε:Type}(L:List ε):kV L []=L:=by
 unfold kV
 rw[List.filter_eq_self.2 (by intro p _;rfl)]
 apply List.ext_getElem?
 intro i
 rw[List.getElem?_map,List.getElem?_zipIdx]
 cases L[i]? <;>simp
theorem tk{ε:Type}{L:List ε}{seen:List Nat}(h:∀j,j<L.length→j∈seen):kV L seen=[]:=by
 unfold kV
 rw[List.filter_eq_nil_iff.2,List.map_nil]
 intro p hp
 have:=List.mem_zipIdx hp
 have:=h p.2 oM
 simp[this]
theorem qL{ε:Type}{L:List ε}{seen:List Nat}{j:Nat}{x:ε}(hx:L[j]? =some x)(hj:j∉seen):(kV L seen).Perm (x::kV L (seen++ [j])):=by
 have key:∀(l:List (ε×Nat)),(l.map (·.2)).Nodup→(x,j)∈l→(l.filter λp=> !seen.contains p.2).Perm ((x,j)::l.filter λp=> !(seen++ [j]).contains p.2):=by
  intro l
  induction l with
  |nil=>intro _ h;cases h
  |cons p l ih=>
   intro hn hm
   rw[List.map_cons,List.nodup_cons] at hn
   rcases List.mem_cons.1 hm with rfl|hm
   ·have e1:(!seen.contains (x,j).2)=true:=by simp[hj]
    have e2:(!(seen++ [j]).contains (x,j).2)=false:=sM
    rw[List.filter_cons,if_pos e1,List.filter_cons,if_neg (by rw[e2];decide)]
    have:(l.filter λp=> !seen.contains p.2)=l.filter λp=> !(seen++ [j]).contains p.2:=by
     refine List.filter_congr λq hq=>?_
     have:q.2≠j:=λe=>hn.1 (by have:=List.mem_map_of_mem (f:=Prod.snd) hq;rw[e] at this;exact this)
     simp[this]
    rw[this]
   ·have hp:p.2≠j:=λe=>hn.1 (by rw[e];exact List.mem_map_of_mem (f:=Prod.snd) hm)
    have e:(!(seen++ [j]).contains p.2)= !seen.contains p.2:=by simp[hp]
    have ih:=ih hn.2 hm
    rw[List.filter_cons,List.filter_cons,e]
    split
    ·exact(ih.cons p).trans (List.Perm.swap _ _ _)
    ·exact ih
 have hm:(x,j)∈L.zipIdx:=by
  rw[List.mem_zipIdx_iff_getElem?];exact hx
 have hn:(L.zipIdx.map (·.2)).Nodup:=by
  have:L.zipIdx.map (·.2)=List.range L.length:=by
   apply List.ext_getElem?
   intro i
   rw[List.getElem?_map,List.getElem?_zipIdx]
   by_cases hi:i<L.length
   ·simp[geG hi,List.getElem?_range hi]
   ·rw[List.getElem?_eq_none oM,List.getElem?_eq_none (by simp;omega)];rfl
  rw[this];exact List.nodup_range
 exact(key _ hn hm).map (·.1)
theorem SR.swap{m:List Cz}{φ:Nat→Nat}{w:World}{st:List AO}{id:Nat}{o o':AO}(hs:SR m φ st w)(hi:st[id]? =some o)(hl:o.live=true)(h:∀c,OR m φ w o c→OR m φ w o' c):SR m φ (st.set id o') w:=by
 have hlt:=(giS.1 hi).1
 refine⟨by rw[List.length_set];exact hs.len,λi x c h1 h2=>?_,hs.lt,λi j x x' c c' b h1 h2 l1 l2 g1 g2 b1 b2=>?_,hs.gl,hs.nb⟩
 ·by_cases hii:id=i
  ·subst hii
   rw[List.getElem?_set_self hlt,am] at h1
   subst h1
   exact h c (hs.obj _ _ _ hi h2)
  ·rw[List.getElem?_set_ne hii] at h1
   exact hs.obj _ _ _ h1 h2
 ·have old:∀(i:Nat)(x:AO),(st.set id o')[i]? =some x→x.live=true→∃y,st[i]? =some y∧y.live=true:=λi x hx hlx=>by
   by_cases hii:id=i
   ·subst hii;exact⟨o,hi,hl⟩
   ·rw[List.getElem?_set_ne hii] at hx;exact⟨x,hx,hlx⟩
  obtain⟨y,e1,e2⟩:=old i x h1 l1
  obtain⟨y',e3,e4⟩:=old j x' h2 l2
  exact hs.inj i j y y' c c' b e1 e3 e2 e4 g1 g2 b1 b2
section
variable{κ α:Type}
def bS(kf:κ→Value)(L:List (κ×α)):List (Value×Nat):=(L.map λp=>kf p.1).zipIdx
theorem uE{m φ w}(kf:κ→Value)(g:α→AV)(L:List (κ×α))(c:Cz)(h:OR m φ w (mpO kf g L) c):OR m φ w (.mb (bS kf L) (L.map λp=>g p.2) L.length) c:=by
 obtain⟨b,h1,h2,l,cl,h3,h4,h5,h6,h7⟩:=h
 have hlen:l.length=L.length:=by have:=congrArg List.length h4;simpa using this
 subst h6
 refine⟨b,h1,h2,l,by rw[←hlen];exact h3,?_,by simpa[List.map_map,Function.comp_def] using h5⟩
 apply List.ext_getElem?
 intro i
 have k1:(l.map (·.key))[i]? =(L.map λp=>kf p.1)[i]? :=by rw[h4,List.map_map];rfl
 have k2:(l.map (·.born))[i]? =(List.range l.length)[i]? :=by rw[h7]
 rw[List.getElem?_map] at k1 k2⊢
 unfold bS
 rw[List.getElem?_zipIdx]
 cases hl:l[i]? with
 |none=>rw[hl,Option.map_none] at k1;rw[←k1];rfl
 |some e=>
  rw[hl,Option.map_some] at k1 k2
  rw[←k1]
  have hi:i<l.length:=(giS.1 hl).1
  rw[List.getElem?_range hi,am] at k2
  simp[k2]
theorem uH{m φ w}(kf:κ→Value)(g:α→AV)(L:List (κ×α))(c:Cz)(h:OR m φ w (.mb (bS kf L) (L.map λp=>g p.2) L.length) c):OR m φ w (mpO kf g L) c:=by
 obtain⟨b,h1,h2,l,h3,h4,h5⟩:=h
 have hlen:l.length=L.length:=by have:=congrArg List.length h4;simpa[bS] using this
 refine⟨b,h1,h2,l,L.length,h3,?_,by simpa[List.map_map,Function.comp_def] using h5,hlen.symm,?_⟩
 ·have:=congrArg (List.map Prod.fst) h4
  simpa[List.map_map,Function.comp_def,bS] using this
 ·have:=congrArg (List.map Prod.snd) h4
  simp only[List.map_map,Function.comp_def] at this
  rw[hlen]
  refine this.trans ?_
  unfold bS
  apply List.ext_getElem?
  intro i
  rw[List.getElem?_map,List.getElem?_zipIdx]
  by_cases hi:i<L.length
  ·simp[geG hi,List.getElem?_range hi]
  ·rw[List.getElem?_eq_none (by simp;omega),List.getElem?_eq_none (by simp;omega)];rfl
theorem nZ{st:List AO}{id:Nat}{o:AO}(h:st[id]? =some o)(o':AO):(st.set id o').set id o=st:=by
 rw[List.set_set]
 apply List.ext_getElem?
 intro i
 by_cases hii:id=i
 ·subst hii;rw[List.getElem?_set_self (giS.1 h).1,h]
 ·rw[List.getElem?_set_ne hii]
variable{P:Program}{env:Env}{st:List AO}{dst:Option Tmp}{ty:TypeId}{pos:String}{after:Array Edge}{guard:Option (Nat×Bool)}
theorem vC{T kt et:TypeId}{x:Operand}{id:Nat}(kf:κ→Value)(g:α→AV)(L:List (κ×α))(hT:P.underlying T=some (.map kt et))(hx:opv env x=some (.mp id))(hi:st[id]? =some (mpO kf g L)):
  Does P env st ⟨dst, .range T x,ty,pos,after,guard⟩ (.pt st.length 0) (st++ [.it (.mp id) L.length [] L.length]):=λm φ a w hs he=>by
 have hlt:=(giS.1 hi).1
 have hs':=hs.swap hi rfl (uE kf g L)
 have h1:rgX P env (st.set id (.mb (bS kf L) (L.map λp=>g p.2) L.length)) T x=some (.pt st.length 0,st.set id (.mb (bS kf L) (L.map λp=>g p.2) L.length)++ [.it (.mp id) L.length [] L.length]):=by
  unfold rgX
  rw[hT,hx]
  simp only[List.getElem?_set_self hlt,List.length_set]
 obtain⟨v,w',m',φ',k1,k2,k3,k4⟩:=uv (dst:=dst) (ty:=ty) (pos:=pos) (after:=after) (guard:=guard) h1 m φ a w hs' he
 refine⟨v,w',m',φ',k1,k2,?_,k4⟩
 have hg:(st.set id (.mb (bS kf L) (L.map λp=>g p.2) L.length)++ [.it (.mp id) L.length [] L.length])[id]? =some (.mb (bS kf L) (L.map λp=>g p.2) L.length):=by
  rw[List.getElem?_append_left (by rw[List.length_set];exact hlt),List.getElem?_set_self hlt]
 have:=k3.swap hg rfl (uH kf g L)
 rwa [List.set_append_left _ _ (by rw[List.length_set];exact hlt),nZ hi] at this
theorem uf{x:Operand}{iid id N:Nat}{seen:List Nat}{j:Nat}(kf:κ→Value)(g:α→AV)(L:List (κ×α)){p:κ×α}(hx:opv env x=some (.pt iid 0))(hit:st[iid]? =some (.it (.mp id) N (seen++ [j]) N))(hi:st[id]? =some (mpO kf g L))(hN:N=L.length)(hj:L[j]? =some p):
  Yields P env st ⟨dst, .entry x,ty,pos,after,guard⟩ (.tu [dV (kf p.1),g p.2]):=λm φ a w hs he=>by
 subst hN
 have hlt:=(giS.1 hi).1
 have hne:id≠iid:=λe=>by subst e;rw[hi] at hit;cases hit
 have hs':=hs.swap hi rfl (uE kf g L)
 have hjl:j<L.length:=(giS.1 hj).1
 have hb:∀(es:List (Value×Nat))(k n:Nat),(∀i,i<es.length→(es[i]?).map (·.2)=some (k+i))→n<es.length→mG es (k+n)=some n:=by
  intro es
  induction es with
  |nil=>intro k n _ h;simp at h
  |cons e es ih=>
   intro k n h hn
   unfold mG
   have h0:=h 0 sM
   simp only[List.getElem?_cons_zero,Option.map_some,am,Nat.add_zero] at h0
   cases n with
   |zero=>rw[h0,Nat.add_zero,Nat.beq_refl];rfl
   |succ n=>
    have:Nat.beq e.2 (k+(n+1))=false:=by
     cases hb:Nat.beq e.2 (k+(n+1)) with
     |false=>rfl
     |true=>have:=nbE hb;omega
    rw[this,cdF,show k+(n+1)=(k+1)+n by omega,ih (k+1) n (λi hi=>by
     have:=h (i+1) (by simpa using hi)
     rw[List.getElem?_cons_succ] at this
     rw[this];congr 1;omega) (by simpa using hn)]
 have hel:(bS kf L).length=L.length:=by simp[bS]
 have hej:(bS kf L)[j]? =some (kf p.1,j):=by
  unfold bS
  rw[List.getElem?_zipIdx,List.getElem?_map,hj];simp
 have hbl:mG (bS kf L) j=some j:=by
  have:=hb (bS kf L) 0 j (λi hi=>by
   unfold bS
   rw[hel] at hi
   rw[List.getElem?_zipIdx,List.getElem?_map,geG hi];simp) (by rw[hel];exact hjl)
  rwa [Nat.zero_add] at this
 refine vu (dst:=dst) (ty:=ty) (pos:=pos) (after:=after) (guard:=guard) (st:=st.set id (.mb (bS kf L) (L.map λp=>g p.2) L.length)) ?_ m φ a w hs' he
 unfold enX
 rw[hx]
 simp only[List.getElem?_set_ne hne,hit,List.getLast?_append,List.getLast?_singleton,Option.some_or,List.getElem?_set_self hlt,Nat.beq_refl,cdT,hbl,hej,List.getElem?_map,hj,Option.map_some]
theorem vT{e:En}{ops:Array Oper}{rest:List Oper}{o:Oper}{d:Nat}{x:Operand}{R:Env→List AO→Prop}{iid id N:Nat}{seen:List Nat}(kf:κ→Value)(g:α→AV)(L:List (κ×α))(hop:o.op= .next x false)(hx:opv env x=some (.pt iid 0))(hit:st[iid]? =some (.it (.mp id) N seen N))(hi:st[id]? =some (mpO kf g L))(hN:N=L.length)
  (hw:Wt ops env o true)(ho:o.dst=some d)(hd:Nat.ble (d+1) e.n=true)(h0:(∀j,j<L.length→j∈seen)→WL P e ops rest ((d, .tu [.d (.v (.bool false))])::env) st R)
  (h1:∀j p,L[j]? =some p→j∉seen→WL P e ops rest ((d, .tu [.d (.v (.bool true)),dV (kf p.1),g p.2])::env) (st.set iid (.it (.mp id) N (seen++ [j]) N)) R):WL P e ops (o::rest) env st R:=λm φ a w hinv=>by
 subst hN
 have hlt:=(giS.1 hi).1
 have hne:id≠iid:=λe=>by subst e;rw[hi] at hit;cases hit
 obtain⟨odst,oop,oty,opos,oaf,og⟩:=o
 simp only at hop ho
 subst hop
 subst ho
 have hs':=hinv.sr.swap hi rfl (uE kf g L)
 have hel:(bS kf L).length=L.length:=by simp[bS]
 have hmem:∀q∈bS kf L,q.2<L.length:=λq hq=>by
  unfold bS at hq
  have:=List.mem_zipIdx hq
  simp at this;omega
 have ht:(!seen.isEmpty&&(!(bS kf L).isEmpty&&(bS kf L).all λp=>Nat.ble L.length p.2))=false:=by
  cases hE:bS kf L with
  |nil=>simp
  |cons q es=>
   have hq:=hmem q (by rw[hE];exact List.mem_cons_self)
   have:Nat.ble L.length q.2=false:=by
    cases hb:Nat.ble L.length q.2 with
    |false=>rfl
    |true=>have:=nbT hb;omega
   simp[this]
 have hit':(st.set id (.mb (bS kf L) (L.map λp=>g p.2) L.length))[iid]? =some (.it (.mp id) L.length seen L.length):=by rw[List.getElem?_set_ne hne];exact hit
 obtain⟨v,w',m',φ',p,hp,k1,k2,k3,k4⟩:=yj (P:=P) (dst:=some d) (ty:=oty) (pos:=opos) (after:=oaf) (guard:=og) hx hit' (List.getElem?_set_self hlt) ht m φ a w hs' hinv.env
 unfold eJ
 rw[if_pos (hw _ _ _ _ hinv.env)]
 refine .inl ?_
 simp only[Oper.wp,k1,Oper.upon]
 unfold kw at hp
 rcases List.mem_append.1 hp with hp|hp
 ·cases hall:(bS kf L).all (λp=>seen.contains p.2|| !(Nat.blt p.2 L.length)) with
  |false=>rw[hall] at hp;cases hp
  |true=>
   rw[hall,cdT,List.mem_singleton] at hp
   subst hp
   have hsr:SR m' φ' st w':=by
    have:=k3.swap (List.getElem?_set_self hlt) rfl (uH kf g L)
    rwa [nZ hi] at this
   have hi':=hinv.ev_put (d:=d) k2 hsr (nbT hd) k4
   refine h0 (λj hj=>?_) m' φ' _ w' hi'
   have hej:(bS kf L)[j]? =some (kf L[j].1,j):=by
    unfold bS
    rw[List.getElem?_zipIdx,List.getElem?_map,geG hj];simp
   have:=List.all_eq_true.1 hall _ (List.mem_of_getElem? hej)
   have hb:Nat.blt j L.length=true:=by simp[Nat.blt_eq,hj]
   simpa[hb] using this
 ·obtain⟨q,hq,hqe⟩:=List.mem_filterMap.1 hp
  obtain⟨j,hj⟩:=List.mem_iff_getElem?.1 hq
  rw[List.getElem?_zip_eq_some] at hj
  obtain⟨hj1,hj2⟩:=hj
  have hjl:j<L.length:=by rw[←hel];exact(giS.1 hj1).1
  have hej:(bS kf L)[j]? =some (kf L[j].1,j):=by
   unfold bS
   rw[List.getElem?_zipIdx,List.getElem?_map,geG hjl];simp
  rw[hej,am] at hj1
  rw[List.getElem?_map,geG hjl,Option.map_some,am] at hj2
  obtain⟨⟨q1,q2⟩,q3⟩:=q
  simp only[Prod.mk.injEq] at hj1
  obtain⟨rfl,rfl⟩:=hj1
  simp only at hj2 hqe
  subst hj2
  cases hse:seen.contains j with
  |true=>rw[hse] at hqe;cases hqe
  |false=>
   rw[hse,cdF,am] at hqe
   subst hqe
   have hg:((st.set id (.mb (bS kf L) (L.map λp=>g p.2) L.length)).set iid (.it (.mp id) L.length (seen++ [j]) L.length))[id]? =some (.mb (bS kf L) (L.map λp=>g p.2) L.length):=by
    rw[List.getElem?_set_ne (Ne.symm hne),List.getElem?_set_self hlt]
   have hsr:SR m' φ' (st.set iid (.it (.mp id) L.length (seen++ [j]) L.length)) w':=by
    have:=k3.swap hg rfl (uH kf g L)
    rwa [List.set_comm _ _ (Ne.symm hne),nZ hi] at this
   have hi':=hinv.ev_put (d:=d) k2 hsr (nbT hd) k4
   exact h1 j L[j] (geG hjl) (by simpa using hse) m' φ' _ w' hi'
end
open Go.MapKept (IsKey sameNow_of_keys run_getObj_map run_setObj_map run_checkKey run_findKey run_keyThatStays)
def AllN{ε σ β:Type}(L:List ε)(seen:List Nat)(step:ε→σ→Option σ)(K:σ→Option β)(s:σ)(r:β)(n:Nat):Prop:=AllO (kV L seen) step K s r∧(kV L seen).length≤n
theorem rp{ε σ β:Type}{L:List ε}{step:ε→σ→Option σ}{K:σ→Option β}{s:σ}{r:β}(h:gK L step K s=some r):AllN L [] step K s r L.length:=by
 refine⟨?_,?_⟩
 ·rw[nh];exact qM h
 ·rw[nh];exact Nat.le_refl _
theorem tU{ε σ β:Type}{L:List ε}{seen:List Nat}{step:ε→σ→Option σ}{K:σ→Option β}{s:σ}{r:β}{n:Nat}(h:AllN L seen step K s r n)(hs:∀j,j<L.length→j∈seen):K s=some r:=by
 have:=h.1
 rw[tk hs] at this
 exact this.nil
theorem AllN.pick{ε σ β:Type}{L:List ε}{seen:List Nat}{step:ε→σ→Option σ}{K:σ→Option β}{s:σ}{r:β}{n j:Nat}{x:ε}(h:AllN L seen step K s r n)(hx:L[j]? =some x)(hj:j∉seen):∃n' s1,n=n'+1∧step x s=some s1∧AllN L (seen++ [j]) step K s1 r n':=by
 have hp:=qL hx hj
 obtain⟨s1,h1,h2⟩:=h.1.cons hp
 have hl:=hp.length_eq
 have h3:=h.2
 rw[List.length_cons] at hl
 exact⟨n - 1,s1,oM,h1,h2,oM⟩
section
variable{P:Program}{env:Env}{st:List AO}{dst:Option Tmp}{ty:TypeId}{pos:String}{after:Array Edge}{guard:Option (Nat×Bool)}
variable{κ α:Type}[DecidableEq κ]
theorem fY{m φ w}:RA m φ w (.d (.sl [])) (.slice none 0 0):=by
 simp only[RA,RD]
 exact .inl ⟨trivial,none,0,rfl,λ_=>rfl⟩
theorem gA{T kt et:TypeId}{d:TypeDesc}{x ki:Operand}{id:Nat}(kf:κ→Value)(g:α→AV)(L:List (κ×α)){k:κ}{z:α}{zv:Value}{r:AV}{b:Bool}(hT:P.underlying T=some (.map kt et))(hd:P.underlying kt=some d)(hK:KeyF d kf)
  (hx:opv env x=some (.mp id))(hi:st[id]? =some (mpO kf g L))(hk:opv env ki=some (.d (.v (kf k))))(hz:(P.info? et).bind (·.zero)=some zv)(hgz:∀m φ w,RA m φ w (g z) zv)(hr:g ((aA L k).getD z)=r)(hb:(aA L k).isSome=b):
  Yields P env st ⟨dst, .lookup T x ki true,ty,pos,after,guard⟩ (.tu [r, .d (.v (.bool b))]):=λm φ a w hs he=>by
 subst hr;subst hb
 obtain⟨b,h1,h2⟩:=fH he hx
 obtain⟨b',hbb,h0,l,cl,g1,g2,g3,g4⟩:=hs.obj id _ _ hi h1
 simp only[Cz.blk.injEq] at hbb
 subst hbb
 have hkeys:l.map (·.key)=L.map (λp=>kf p.1):=by rw[g2];simp
 have hkv:=aI he hk
 have hlt:=bu g1
 have tu:∀{x:AV}{v:Value}{c:Bool},RA m φ w x v→RA m φ w (.tu [x, .d (.v (.bool c))]) (.tuple #[v, .bool c]):=λh=>by
  simp only[RA];exact⟨_,rfl,aK h (aK RAv bB)⟩
 cases hinf:P.info? et with
 |none=>simp[hinf] at hz
 |some i=>
  simp only[hinf,bnS] at hz
  rcases fe hK k L l 0 hkeys with⟨q1,q2,_⟩|⟨j,e,y,q1,q2,q3,q4,q5,_⟩
  ·refine⟨.tuple #[zv, .bool false],by rw[q1,Option.getD_none];exact tu (hgz m φ w),λw' hb=>?_⟩
   have g1':w'.heap[b]? =some (.map ⟨l⟩ cl):=by rw[hb.block b hlt];exact g1
   simp[execOp,Instr.lookup,h2,hkv,run_underlying hT,MapKept.run_getObj_map g1',run_checkKey hd (hK.key k),run_findKey hd q2,zeroValue,typeInfo,hinf,hz,Result.andThen]
  ·have hval:RA m φ w (g y) e.val:=by
    have:(((L.map λp=>(kf p.1,g p.2)).map (·.2)))[j]? =some (g y):=by simp[q2]
    obtain⟨v',hv1,hv2⟩:=bQ g3 this
    simp only[List.getElem?_map,q1,Option.map_some,am] at hv1
    rw[hv1];exact hv2
   refine⟨.tuple #[e.val, .bool true],by rw[q3,Option.getD_some];exact tu hval,λw' hb=>?_⟩
   have g1':w'.heap[b]? =some (.map ⟨l⟩ cl):=by rw[hb.block b hlt];exact g1
   simp[execOp,Instr.lookup,h2,hkv,run_underlying hT,MapKept.run_getObj_map g1',run_checkKey hd (hK.key k),run_findKey hd q5,Result.andThen]
theorem j8{T kt et:TypeId}{d:TypeDesc}{x ki:Operand}{id:Nat}(kf:κ→Value)(g:α→AV)(L:List (κ×α)){k:κ}{z:α}{zv:Value}(hT:P.underlying T=some (.map kt et))(hd:P.underlying kt=some d)(hK:KeyF d kf)
  (hx:opv env x=some (.mp id))(hi:st[id]? =some (mpO kf g L))(hk:opv env ki=some (.d (.v (kf k))))(hz:(P.info? et).bind (·.zero)=some zv)(hgz:∀m φ w,RA m φ w (g z) zv):
  Yields P env st ⟨dst, .lookup T x ki false,ty,pos,after,guard⟩ (g ((aA L k).getD z)):=λm φ a w hs he=>by
 obtain⟨b,h1,h2⟩:=fH he hx
 obtain⟨b',hbb,h0,l,cl,g1,g2,g3,g4⟩:=hs.obj id _ _ hi h1
 simp only[Cz.blk.injEq] at hbb
 subst hbb
 have hkeys:l.map (·.key)=L.map (λp=>kf p.1):=by rw[g2];simp
 have hkv:=aI he hk
 have hlt:=bu g1
 cases hinf:P.info? et with
 |none=>simp[hinf] at hz
 |some i=>
  simp only[hinf,bnS] at hz
  rcases fe hK k L l 0 hkeys with⟨q1,q2,_⟩|⟨j,e,y,q1,q2,q3,q4,q5,_⟩
  ·refine⟨zv,by rw[q1,Option.getD_none];exact hgz m φ w,λw' hb=>?_⟩
   have g1':w'.heap[b]? =some (.map ⟨l⟩ cl):=by rw[hb.block b hlt];exact g1
   simp[execOp,Instr.lookup,h2,hkv,run_underlying hT,MapKept.run_getObj_map g1',run_checkKey hd (hK.key k),run_findKey hd q2,zeroValue,typeInfo,hinf,hz,Result.andThen]
  ·have hval:RA m φ w (g y) e.val:=by
    have:(((L.map λp=>(kf p.1,g p.2)).map (·.2)))[j]? =some (g y):=by simp[q2]
    obtain⟨v',hv1,hv2⟩:=bQ g3 this
    simp only[List.getElem?_map,q1,Option.map_some,am] at hv1
    rw[hv1];exact hv2
   refine⟨e.val,by rw[q3,Option.getD_some];exact hval,λw' hb=>?_⟩
   have g1':w'.heap[b]? =some (.map ⟨l⟩ cl):=by rw[hb.block b hlt];exact g1
   simp[execOp,Instr.lookup,h2,hkv,run_underlying hT,MapKept.run_getObj_map g1',run_checkKey hd (hK.key k),run_findKey hd q5,Result.andThen]
end
def byV:List (List AV)→Option (List UInt8)
 |[]=>some []
 |[.d (.v (.int .u8 n))]::l=>bif decide (0≤n)&&decide (n<256) then(match byV l with
  |some bs=>some (UInt8.ofNat n.toNat::bs)
  |none=>none) else none
 |_=>none
theorem vM:∀{es:List (List AV)}{bs:List UInt8},byV es=some bs→es.flatten=(bs.map λb=>Value.int .u8 (b.toNat:Int)).map (λv=>AV.d (D.v v))∧bs.length=es.length
 |[],bs,h=>by obtain rfl:=inS h;exact⟨rfl,rfl⟩
 |e::l,bs,h=>by
  unfold byV at h
  split at h
  ·rename_i h0;cases h0
  ·rename_i n l' h0
   obtain⟨rfl,rfl⟩:=List.cons.inj h0
   cases hb:decide (0≤n)&&decide (n<256) with
   |false=>rw[hb] at h;cases h
   |true=>
    rw[hb,cdT] at h
    rw[Bool.and_eq_true] at hb
    have h1:=of_decide_eq_true hb.1
    have h2:=of_decide_eq_true hb.2
    split at h
    ·rename_i bs' hbs
     obtain rfl:=inS h
     obtain⟨k1,k2⟩:=vM hbs
     refine⟨?_,by simp[k2]⟩
     have:((UInt8.ofNat n.toNat).toNat:Int)=n:=by
      rw[UInt8.toNat_ofNat']
      omega
     simp only[List.flatten_cons,List.map_cons,this,k1]
     rfl
    ·cases h
  ·cases h
theorem yJ{m φ w}:∀{vs ys:List Value},RAs m φ w (vs.map λv=>AV.d (D.v v)) ys→ys=vs
 |[],ys,h=>by simpa[RAs] using h
 |v::vs,ys,h=>by
  simp only[List.map_cons,RAs] at h
  obtain⟨c,cs,rfl,h1,h2⟩:=h
  simp only[RA,RD] at h1
  rw[h1,yJ h2]
section
variable{P:Program}{env:Env}{st:List AO}{dst:Option Tmp}{ty:TypeId}{pos:String}{after:Array Edge}{guard:Option (Nat×Bool)}
theorem y_b2s{S T e:TypeId}{x:Operand}{id ver Te k:Nat}{es:List (List AV)}{bs:List UInt8}(hS:P.underlying S=some (.slice e))(he8:P.underlying e=some (.int .u8))(hT:P.underlying T=some .string)(hx:opv env x=some (.os id ver))(hi:st[id]? =some (.os Te k ver es))(hb:byV es=some bs):
  Yields P env st ⟨dst, .convert S T x,ty,pos,after,guard⟩ (.d (.v (.string ⟨bs.toArray⟩))):=λm φ a w hs he=>by
 obtain⟨y,xs,h1,h2,h3,h4,h5,h6⟩:=je hs he hx hi
 obtain⟨k1,k2⟩:=vM hb
 rw[k1] at h4
 have hxs:=yJ h4
 subst hxs
 refine⟨.string ⟨bs.toArray⟩,RAv,λw' hbl=>?_⟩
 rcases h3.2 with⟨rfl,hn⟩|⟨g,cap,cur,rfl,_,hg,_⟩
 ·have:bs=[]:=List.eq_nil_of_length_eq_zero (by rw[k2];exact hn)
  subst this
  have:=run_convert_bytes_string (P:=P) w' S T e none 0 0 hS he8 hT
  simp[execOp,h2,this,Conv.bytesToString]
  rfl
 ·rw[←k2] at h3 h2
  have hc:∀j (hj:j<bs.length),w'.cell? ((⟨g,0,none⟩:Addr).add j)=some (.int .u8 (bs[j].toNat:Int)):=λj hj=>by
   have:=bY h3 (j:=j) (u:= .int .u8 (bs[j].toNat:Int)) (by simp[geG hj])
   rw[cA]
   rw[aP (hbl.block g (bu hg))]
   simpa using this
  have:=run_convert_bytes_back (P:=P) w' S T e ⟨g,0,none⟩ cap bs hS he8 hT hc
  simp[execOp,h2,this]
theorem ua{T kt et:TypeId}{x:Operand}{id cl:Nat}{es:List (Value×Nat)}{xs:List AV}{c:Call}(hT:P.underlying T=some (.map kt et))(hc:c=⟨.builtin .len, #[x], #[T]⟩)(hx:opv env x=some (.mp id))(hi:st[id]? =some (.mb es xs cl)):
  Yields P env st ⟨dst, .call c,ty,pos,after,guard⟩ (.d (.v (.int .i64 es.length))):=λm φ a w hs he=>by
 obtain⟨b,h1,h2⟩:=fH he hx
 obtain⟨b',hbb,h0,l,g1,g2,g3⟩:=hs.obj id _ _ hi h1
 simp only[Cz.blk.injEq] at hbb
 subst hbb
 have hlen:es.length=l.length:=by rw[←g2,List.length_map]
 refine⟨_,RAv,λw' hb=>?_⟩
 subst hc
 have e1:w'.heap[b]? =some (.map ⟨l⟩ cl):=by rw[hb.block b (bu g1)];exact g1
 have f1:(getObj b).run P w'= .ok (.map ⟨l⟩ cl) w':=by simp[getObj,Sem.run,e1]
 simp[execOp,resolve,invoke,builtin,Builtin.len_,h2,run_underlying hT,f1,goInt,hlen]
end
theorem cz{α:Type}{c:Bool}{a:Option α}{r:α}(h:(bif c then a else none)=some r):c=true∧a=some r:=by
 cases c
 ·cases h
 ·exact⟨rfl,h⟩
theorem bifN{α:Type}{c:Bool}{a:Option α}{r:α}(h:(bif c then none else a)=some r):c=false∧a=some r:=by
 cases c
 ·exact⟨rfl,h⟩
 ·cases h
def dj{α:Type}{β:Type}:List α→(List α→β)→β
 |[],k=>k []
 |x::l,k=>dj l λl'=>k (x::l')
theorem db{α:Type}{β:Type}:∀{l:List α}{k:List α→β},dj l k=k l
 |[],_=>rfl
 |x::l,k=>by unfold dj;rw[db]
def kx:AV→Option (IntKind×Int)
 | .d (.v (.int k i))=>some (k,i)
 |_=>none
theorem dw{x:AV}{k:IntKind}{i:Int}(h:kx x=some (k,i)):x= .d (.v (.int k i)):=by
 unfold kx at h
 split at h
 ·simp only[am,Prod.mk.injEq] at h
  rw[h.1,h.2]
 ·cases h
def osA(st:List AO)(id ver:Nat):Option (Nat×Nat×List (List AV)):=match st[id]? with
 |some (.os T k v es)=>bif Nat.beq v ver then some (T,k,es) else none
 |_=>none
theorem d7{st:List AO}{id ver T k:Nat}{es:List (List AV)}(h:osA st id ver=some (T,k,es)):st[id]? =some (.os T k ver es):=by
 unfold osA at h
 split at h
 ·rename_i T' k' v es' hs
  cases hb:Nat.beq v ver with
  |false=>rw[hb] at h;cases h
  |true=>
   rw[hb] at h
   simp only[cdT,am,Prod.mk.injEq] at h
   obtain⟨rfl,rfl,rfl⟩:=h
   rw[hs,nbE hb]
 ·cases h
def ixS(P:Program)(st:List AO)(T:Nat)(xr:AV)(i:Int):Option AV:=
 match aH P T with
 |some (n,_)=>bif decide (0≤i) then(match xr with
  | .d (.sl es)=>(match es[i.toNat]? with
   |some cs=>bif Nat.beq cs.length n then some (.d (.pc cs)) else none
   |none=>none)
  | .os id ver=>(match osA st id ver with
   |some (_,_,es)=>bif decide (i<es.length) then some (.pe id ver (i.toNat*n)) else none
   |none=>none)
  |_=>none) else none
 |none=>none
def uP(P:Program)(st:List AO)(T:Nat):AV→Option AV
 | .pe id ver off=>match osA st id ver with
  |some (_,_,es)=>(match ba P T,bi P T with
   |some false,_=>es.flatten[off]?
   |some true,some n=>bif decide (off+n≤es.flatten.length) then some (.ag ((es.flatten.drop off).take n)) else none
   |_,_=>none)
  |none=>none
 |_=>none
def faX(P:Program)(st:List AO)(S i:Nat):AV→Option AV
 | .pe id ver off=>match osA st id ver,de P S i with
  |some _,some (fo,_+1,_)=>some (.pe id ver (off+fo))
  |_,_=>none
 |_=>none
def ncX(st:List AO):AV→Option AV
 | .pe id ver off=>match osA st id ver with
  |some _=>some (.pe id ver off)
  |none=>none
 |_=>none
def lenX(P:Program)(st:List AO)(T:Nat):AV→Option AV
 | .d (.sl es)=>match aH P T with
  |some _=>some (.d (.v (.int .i64 es.length)))
  |none=>none
 | .os id ver=>match aH P T,osA st id ver with
  |some _,some (_,_,es)=>some (.d (.v (.int .i64 es.length)))
  |_,_=>none
 | .d (.v (.string s))=>match P.underlying T with
  |some .string=>some (.d (.v (.int .i64 s.size)))
  |_=>none
 | .d (.v (.slice none 0 0))=>match aH P T with
  |some _=>some (.d (.v (.int .i64 0)))
  |none=>none
 | .mp id=>match P.underlying T,st[id]? with
  |some (.map _ _),some (.mb es _ _)=>some (.d (.v (.int .i64 es.length)))
  |_,_=>none
 |_=>none
def bitX(k:IntKind)(p q:Int):BinOp→Option AV
 | .and=>some (.d (.v (.int k (k.wrap (BitVec.ofInt k.bits p&&&BitVec.ofInt k.bits q).toNat))))
 | .or=>some (.d (.v (.int k (k.wrap (BitVec.ofInt k.bits p|||BitVec.ofInt k.bits q).toNat))))
 | .xor=>some (.d (.v (.int k (k.wrap (BitVec.ofInt k.bits p^^^BitVec.ofInt k.bits q).toNat))))
 | .quo=>bif decide (q=0) then none else some (.d (.v (.int k (k.wrap (p.tdiv q)))))
 | .rem=>bif decide (q=0) then none else some (.d (.v (.int k (p.tmod q))))
 |_=>none
def shX(k:IntKind)(p q:Int):BinOp→Option AV
 | .shr=>bif decide (0≤q) then some (.d (.v (.int k (p.fdiv (2^min q.toNat k.bits))))) else none
 | .shl=>bif decide (0≤q) then some (.d (.v (.int k (k.wrap (p*2^min q.toNat k.bits))))) else none
 |_=>none
def vO(env:Env)(o:Option Operand)(d:Nat):Option Nat:=match o with
 |none=>some d
 |some x=>match(opv env x).bind kx with
  |some (_,i)=>bif decide (0≤i) then some i.toNat else none
  |none=>none
theorem oF{env:Env}{o:Option Operand}{d n:Nat}(h:vO env o d=some n):Bnd env o d n:=by
 cases o with
 |none=>exact(inS h).symm
 |some x=>
  dsimp only[vO] at h
  split at h
  ·rename_i k i hx
   obtain⟨z,h1,h2⟩:=bF hx
   rw[dw h2] at h1
   by_cases hi:0≤i
   ·rw[dcT hi] at h
    exact⟨k,i,h1,hi,inS h⟩
   ·rw[dcF hi] at h;cases h
  ·cases h
def uq(P:Program)(env:Env)(T:Nat)(lo hi:Option Operand):AV→Option AV
 | .d (.sl es)=>match aH P T,vO env lo 0,vO env hi es.length with
  |some (n,_),some l,some h=>bif decide (l≤h)&&(decide (h≤es.length)&&es.all λe=>Nat.beq e.length n) then some (.d (.sl ((es.drop l).take (h - l)))) else none
  |_,_,_=>none
 |_=>none
def sG(P:Program)(env:Env)(T:Nat)(parts:Array (Nat×Operand)):Option AV:=
 match dW P T,aM P T,bU env (parts.toList.map (·.2)) with
 |some (_,n,_),some zs,some xs=>(match jm (λi=>some (i*n,n)) (zs.map λv=> .d (.v v)) (j7 parts.toList xs) with
  |some cs=>some (.ag cs)
  |none=>none)
 |_,_,_=>none
def vN(P:Program)(env:Env)(st:List AO)(T:Nat)(parts:Array (Nat×Operand)):Option AV:=
 match bM P T,aM P T,bU env (parts.toList.map (·.2)) with
 |some pl,some zs,some xs=>(match is st (λi=>pl[i]?) (zs.map λv=> .d (.v v)) (j7 parts.toList xs) with
  |some cs=>some (.ag cs)
  |none=>none)
 |_,_,_=>sG P env T parts
def zN(P:Program)(st:List AO)(T:Nat):AV→Option AV
 | .d (.v (.slice none 0 0))=>match P.underlying T with
  |some (.slice _)=>some (.d (.v (.bool true)))
  |_=>none
 | .d (.sl (_::_))=>match P.underlying T with
  |some (.slice _)=>some (.d (.v (.bool false)))
  |_=>none
 | .os id ver=>match P.underlying T,osA st id ver with
  |some (.slice _),some (_,_,_::_)=>some (.d (.v (.bool false)))
  |_,_=>none
 |_=>none
def eqX(P:Program)(T:Nat):Option (List Value)→Option (List Value)→BinOp→Option AV
 |some xs,some ys, .eql=>(match ji P T with
  |some ks=>bif bP ks xs&&bP ks ys then some (.d (.v (.bool (eqL xs ys)))) else none
  |none=>none)
 |some xs,some ys, .neq=>(match ji P T with
  |some ks=>bif bP ks xs&&bP ks ys then some (.d (.v (.bool (!eqL xs ys)))) else none
  |none=>none)
 |_,_,_=>none
def Ai(P:Program)(T:Nat):Option AV→Option AV→BinOp→Option AV
 |some (.d (.v (.bool p))),some (.d (.v (.bool q))), .eql=>(match P.underlying T with
  |some .bool=>some (.d (.v (.bool (p==q))))
  |_=>none)
 |some (.d (.v (.string p))),some (.d (.v (.string q))), .eql=>some (.d (.v (.bool (p.data.toList==q.data.toList))))
 |_,_,_=>none
def ixA(P:Program)(st:List AO)(T:Nat)(xr:AV)(i:Int):Option AV:=match dW P T with
 |some (len,n,_)=>bif decide (0≤i)&&decide (i<len) then(match xr with
  | .pt id off=>some (.pt id (off+i.toNat*n))
  | .d (.pc ps)=>some (.d (.pc (ps.drop (i.toNat*n))))
  | .pe id ver off=>(match osA st id ver with
   |some _=>some (.pe id ver (off+i.toNat*n))
   |none=>none)
  |_=>none) else none
 |none=>none
def ixV(P:Program)(T:Nat)(xr:AV)(i:Int):Option AV:=match dW P T with
 |some (len,n,false)=>bif decide (0≤i)&&decide (i<len) then(match xr with
  | .d (.ag ps)=>(match ps[i.toNat*n]? with
   |some p=>some (.d p)
   |none=>none)
  | .ag ps=>ps[i.toNat*n]?
  |_=>none) else none
 |some (len,n,true)=>bif decide (0≤i)&&decide (i<len) then(match xr with
  | .d (.ag ps)=>some (.d (.ag ((ps.drop (i.toNat*n)).take n)))
  | .ag ps=>some (.ag ((ps.drop (i.toNat*n)).take n))
  |_=>none) else none
 |none=>none
def b2X(P:Program)(env:Env)(st:List AO)(S T:TypeId)(x:Operand):Option AV:=match opv env x,P.underlying S,P.underlying T with
 |some (.os id ver),some (.slice e),some .string=>(match osA st id ver,P.underlying e with
  |some (_,_,es),some (.int .u8)=>(match byV es with
   |some bs=>some (.d (.v (.string ⟨bs.toArray⟩)))
   |none=>none)
  |_,_=>none)
 |_,_,_=>none
def exY(P:Program)(t:Ty)(env:Env)(st:List AO)(op:Op):Option AV:=
 match jx t env st op with
 |some r=>some r
 |none=>match op with
  | .indexAddr T x ix=>(match opv env x,(opv env ix).bind kx with
   |some xr,some (_,i)=>(match ixS P st T xr i with
    |some r=>some r
    |none=>ixA P st T xr i)
   |_,_=>none)
  | .load T x=>(opv env x).bind (uP P st T)
  | .fieldAddr S x i=>(opv env x).bind (faX P st S i)
  | .nilCheck x=>(opv env x).bind (ncX st)
  | .call c=>(match c.callee,c.args.toList,c.argTypes.toList with
   | .builtin .len,[x],[T]=>(opv env x).bind (lenX P st T)
   | .builtin .max,[x,y],[_,_]=>(match(opv env x).bind kx,(opv env y).bind kx with
    |some (k,p),some (k',q)=>bif decide (k=k') then some (.d (.v (.int k (if q>p then q else p)))) else none
    |_,_=>none)
   | .builtin .min,[x,y],[_,_]=>(match(opv env x).bind kx,(opv env y).bind kx with
    |some (k,p),some (k',q)=>bif decide (k=k') then some (.d (.v (.int k (if q<p then q else p)))) else none
    |_,_=>none)
   |_,_,_=>none)
  | .binOp .eql T x (.const (.slice none 0 0)) _=>(opv env x).bind (zN P st T)
  | .binOp b T x y _=>(match(opv env x).bind kx,(opv env y).bind kx with
   |some (k,p),some (k',q)=>(match shX k p q b with
    |some r=>some r
    |none=>bif decide (k=k') then bitX k p q b else none)
   |_,_=>(match eqX P T ((opv env x).bind agV) ((opv env y).bind agV) b with
    |some r=>some r
    |none=>Ai P T (opv env x) (opv env y) b))
  | .slice T x lo hi none=>(opv env x).bind (uq P env T lo hi)
  | .convert S T x=>b2X P env st S T x
  | .lookup T x ki c=>lkX P env st T x ki c
  | .entry x=>enX env st x
  | .build T parts=>vN P env st T parts
  | .index T x ix=>(match opv env x,(opv env ix).bind kx,P.underlying T with
   |some (.d (.v (.string s))),some (_,i),some .string=>(match fm s i with
    |some r=>some (.d (.v (.int .u8 r)))
    |none=>none)
   |some xr,some (_,i),_=>ixV P T xr i
   |_,_,_=>none)
  |_=>none
section
variable{P:Program}{t:Ty}{env:Env}{st:List AO}{dst:Option Tmp}{ty:TypeId}{pos:String}{after:Array Edge}{guard:Option (Nat×Bool)}
theorem oX{x:Operand}{id ver off Te k:Nat}{es:List (List AV)}(hx:opv env x=some (.pe id ver off))(hi:st[id]? =some (.os Te k ver es)):Yields P env st ⟨dst, .nilCheck x,ty,pos,after,guard⟩ (.pe id ver off):=λm φ a w hs he=>by
 obtain⟨p,h2⟩:=zp hs he hx hi
 refine⟨_,aN he hx,λw' _=>?_⟩
 simp[execOp,h2]
theorem zL{T:Nat}{x ix:Operand}{xr r:AV}{k:IntKind}{i:Int}(hx:opv env x=some xr)(hi:opv env ix=some (.d (.v (.int k i))))(h:ixS P st T xr i=some r):Yields P env st ⟨dst, .indexAddr T x ix,ty,pos,after,guard⟩ r:=by
 unfold ixS at h
 split at h
 ·rename_i n bb hT
  by_cases h0:0≤i
  ·rw[dcT h0,cdT] at h
   split at h
   ·rename_i es
    split at h
    ·rename_i cs hc
     cases hb:Nat.beq cs.length n with
     |false=>rw[hb] at h;cases h
     |true=>
      rw[hb] at h
      obtain rfl:=inS h
      exact aj hT hx (Le.refl _) hi h0 hc (nbE hb)
    ·cases h
   ·rename_i id ver
    split at h
    ·rename_i T' k' es ho
     by_cases h1:i<es.length
     ·rw[dcT h1] at h
      obtain rfl:=inS h
      exact be hT hx (d7 ho) hi h0 h1
     ·rw[dcF h1] at h;cases h
    ·cases h
   ·cases h
  ·rw[dcF h0] at h;cases h
 ·cases h
theorem uO{T:Nat}{x:Operand}{xr r:AV}(hx:opv env x=some xr)(h:uP P st T xr=some r):Yields P env st ⟨dst, .load T x,ty,pos,after,guard⟩ r:=by
 unfold uP at h
 split at h
 ·split at h
  ·rename_i ho
   split at h
   ·rename_i ha;exact cu hx (d7 ho) ha h
   ·rename_i n ha hn
    obtain⟨hl,h⟩:=cz h
    obtain rfl:=inS h
    exact qr hx (d7 ho) ha hn (of_decide_eq_true hl)
   ·cases h
  ·cases h
 ·cases h
theorem nK{T T' E:Nat}{x:Operand}{b:Bool}(hT:P.underlying T=some (.slice E))(h:∀(m:List Cz)(φ:Nat→Nat)(a:Act)(w:World),SR m φ st w→EnvOk m φ w env a→∃ad ll cc,a.eval x= .slice ad ll cc∧ad.isNone=b):
  Yields P env st ⟨dst, .binOp .eql T x (.const (.slice none 0 0)) T',ty,pos,after,guard⟩ (.d (.v (.bool b))):=λm φ a w hs he=>by
 obtain⟨ad,ll,cc,h2,h3⟩:=h m φ a w hs he
 refine⟨.bool b,RAv,λw' _=>?_⟩
 have hc:a.eval (.const (.slice none 0 0))= .slice none 0 0:=rfl
 subst h3
 simp[execOp,h2,hc,eqGuard,binOp,run_equal_slice_nil w' T E ad ll cc hT]
theorem xg{T T':Nat}{x:Operand}{xr r:AV}(hx:opv env x=some xr)(h:zN P st T xr=some r):Yields P env st ⟨dst, .binOp .eql T x (.const (.slice none 0 0)) T',ty,pos,after,guard⟩ r:=by
 unfold zN at h
 split at h
 ·split at h
  ·rename_i hT
   obtain rfl:=inS h
   refine nK hT λm φ a w hs he=>?_
   have h1:=aN he hx
   simp only[RA,RD] at h1
   exact⟨none,0,0,h1,rfl⟩
  ·cases h
 ·rename_i c es
  split at h
  ·rename_i hT
   obtain rfl:=inS h
   refine nK hT λm φ a w hs he=>?_
   have h1:=aN he hx
   simp only[RA] at h1
   obtain⟨ad,ll,cc,h2,h3⟩:=vX h1
   refine⟨ad,ll,cc,h2,?_⟩
   cases hn:ad.isNone with
   |false=>rfl
   |true=>cases h3 hn
  ·cases h
 ·split at h
  ·rename_i hT ho
   obtain rfl:=inS h
   refine nK hT λm φ a w hs he=>?_
   obtain⟨y,xs,h1,h2,h3,_⟩:=je hs he hx (d7 ho)
   rcases h3.2 with⟨rfl,hn⟩|⟨g,cap,cur,rfl,_⟩
   ·simp at hn
   ·exact⟨_,_,_,h2,rfl⟩
  ·cases h
 ·cases h
theorem Aj{T T':Nat}{b:BinOp}{x y:Operand}{r:AV}(h:eqX P T ((opv env x).bind agV) ((opv env y).bind agV) b=some r):Yields P env st ⟨dst, .binOp b T x y T',ty,pos,after,guard⟩ r:=by
 unfold eqX at h
 split at h
 ·rename_i xs ys h1 h2
  obtain⟨z,g1,g2⟩:=bF h1
  obtain⟨z',k1,k2⟩:=bF h2
  split at h
  ·rename_i ks hk
   obtain⟨hc,h⟩:=cz h
   obtain rfl:=inS h
   rw[Bool.and_eq_true] at hc
   exact qt hk g1 (mH g2) k1 (mH k2) hc.1 hc.2 rfl
  ·cases h
 ·rename_i xs ys h1 h2
  obtain⟨z,g1,g2⟩:=bF h1
  obtain⟨z',k1,k2⟩:=bF h2
  split at h
  ·rename_i ks hk
   obtain⟨hc,h⟩:=cz h
   obtain rfl:=inS h
   rw[Bool.and_eq_true] at hc
   exact yR hk g1 (mH g2) k1 (mH k2) hc.1 hc.2 rfl
  ·cases h
 ·cases h
theorem xA{T T':Nat}{b:BinOp}{x y:Operand}{r:AV}(h:Ai P T (opv env x) (opv env y) b=some r):Yields P env st ⟨dst, .binOp b T x y T',ty,pos,after,guard⟩ r:=by
 unfold Ai at h
 split at h
 ·rename_i h1 h2
  split at h
  ·rename_i hT
   obtain rfl:=inS h
   exact y_eqb hT h1 h2
  ·cases h
 ·rename_i h1 h2
  rw[←ByteArray.toList_eq,←ByteArray.toList_eq] at h
  obtain rfl:=inS h
  exact yf h1 h2
 ·cases h
theorem lc{T len n:Nat}{bb:Bool}{x ix:Operand}{id ver off Te k:Nat}{es:List (List AV)}{kk:IntKind}{i:Int}(hT:dW P T=some (len,n,bb))(hx:opv env x=some (.pe id ver off))(hs0:st[id]? =some (.os Te k ver es))(hi:opv env ix=some (.d (.v (.int kk i))))
  (h0:0≤i)(h1:i<len):Yields P env st ⟨dst, .indexAddr T x ix,ty,pos,after,guard⟩ (.pe id ver (off+i.toNat*n)):=λm φ a w hs he=>by
 have hra:=aN he hx
 simp only[RA] at hra
 obtain⟨ver0,y0,g1,g2,g3⟩:=hra
 obtain⟨y,xs,e1,_⟩:=hs.obj id _ _ hs0 g1
 simp only[Cz.tok.injEq] at e1
 obtain⟨rfl,rfl⟩:=e1
 obtain⟨b,len',cap,rfl,hv⟩:=g3 rfl
 exact⟨.pointer (some ⟨b,off+i.toNat*n,none⟩),by simp only[RA];exact⟨_,_,g1,Nat.le_refl _,λ_=>⟨b,_,_,rfl,rfl⟩⟩,λw' _=>by simp[execOp,hv,aI he hi,eK hT h0 h1]⟩
theorem zM{T:Nat}{x ix:Operand}{xr r:AV}{k:IntKind}{i:Int}(hx:opv env x=some xr)(hi:opv env ix=some (.d (.v (.int k i))))(h:ixA P st T xr i=some r):Yields P env st ⟨dst, .indexAddr T x ix,ty,pos,after,guard⟩ r:=by
 unfold ixA at h
 split at h
 ·rename_i len n bb hT
  obtain⟨hc,h⟩:=cz h
  rw[Bool.and_eq_true] at hc
  have h0:=of_decide_eq_true hc.1
  have h1:=of_decide_eq_true hc.2
  split at h
  ·obtain rfl:=inS h;exact ga hT hx hi h0 h1
  ·obtain rfl:=inS h;exact fF hT hx hi h0 h1
  ·split at h
   ·rename_i ho;obtain rfl:=inS h;exact lc hT hx (d7 ho) hi h0 h1
   ·cases h
  ·cases h
 ·cases h
theorem sZ{T len n:Nat}{x ix:Operand}{ps:List AV}{kk:IntKind}{i:Int}(hT:dW P T=some (len,n,true))(hx:opv env x=some (.ag ps))(hi:opv env ix=some (.d (.v (.int kk i))))
  (h0:0≤i)(h1:i<len):Yields P env st ⟨dst, .index T x ix,ty,pos,after,guard⟩ (.ag ((ps.drop (i.toNat*n)).take n)):=λm φ a w _ he=>by
 have hra:=aN he hx
 simp only[RA] at hra
 obtain⟨cs,h2,h3⟩:=hra
 obtain⟨t,g1,g2,g3⟩:=d9 hT
 exact⟨_,by simp only[RA];exact⟨_,rfl,bz n (bN _ h3)⟩,λw' _=>by simp[execOp,Instr.index,h2,aI he hi,asIntOf,run_underlying g1,h0,h1,ar g2,ij g3 g2]⟩
theorem zK{T:Nat}{x ix:Operand}{xr r:AV}{k:IntKind}{i:Int}(hx:opv env x=some xr)(hi:opv env ix=some (.d (.v (.int k i))))(h:ixV P T xr i=some r):Yields P env st ⟨dst, .index T x ix,ty,pos,after,guard⟩ r:=by
 unfold ixV at h
 split at h
 ·rename_i len n hT
  obtain⟨hc,h⟩:=cz h
  rw[Bool.and_eq_true] at hc
  have h0:=of_decide_eq_true hc.1
  have h1:=of_decide_eq_true hc.2
  split at h
  ·split at h
   ·rename_i hp;obtain rfl:=inS h;exact wq hT hx hi h0 h1 hp
   ·cases h
  ·exact ub hT hx hi h0 h1 h
  ·cases h
 ·rename_i len n hT
  obtain⟨hc,h⟩:=cz h
  rw[Bool.and_eq_true] at hc
  have h0:=of_decide_eq_true hc.1
  have h1:=of_decide_eq_true hc.2
  split at h
  ·obtain rfl:=inS h;exact uc hT hx hi h0 h1
  ·obtain rfl:=inS h;exact sZ hT hx hi h0 h1
  ·cases h
 ·cases h
theorem vh(ht:t.ok P=true){op:Op}{r:AV}(h:exY P t env st op=some r):Yields P env st ⟨dst,op,ty,pos,after,guard⟩ r:=by
 unfold exY at h
 split at h
 ·rename_i r' hr
  obtain rfl:=inS h
  exact l4 ht hr
 ·split at h
  ·rename_i T x ix
   split at h
   ·rename_i xr k i hx hi
    obtain⟨z,h1,h2⟩:=bF hi
    rw[dw h2] at h1
    split at h
    ·rename_i r1 hr1
     obtain rfl:=inS h
     exact zL hx h1 hr1
    ·exact zM hx h1 h
   ·cases h
  ·obtain⟨z,h1,h2⟩:=bF h
   exact uO h1 h2
  ·obtain⟨z,h1,h2⟩:=bF h
   unfold faX at h2
   split at h2
   ·split at h2
    ·rename_i ho hf
     obtain rfl:=inS h2
     exact lR hf h1 (d7 ho)
    ·cases h2
   ·cases h2
  ·obtain⟨z,h1,h2⟩:=bF h
   unfold ncX at h2
   split at h2
   ·split at h2
    ·rename_i ho
     obtain rfl:=inS h2
     exact oX h1 (d7 ho)
    ·cases h2
   ·cases h2
  ·rename_i c _
   split at h
   ·rename_i x T hc ha hg
    have hcc:c=⟨.builtin .len, #[x], #[T]⟩:=by
     obtain⟨c1,c2,c3⟩:=c
     simp only at hc ha hg
     subst hc
     have e2:c2= #[x]:=by rw[←ha]
     have e3:c3= #[T]:=by rw[←hg]
     rw[e2,e3]
    obtain⟨z,h1,h2⟩:=bF h
    unfold lenX at h2
    split at h2
    ·split at h2
     ·rename_i hT;obtain rfl:=inS h2;exact lJ hT hcc h1 (Le.refl _)
     ·cases h2
    ·split at h2
     ·rename_i hT ho;obtain rfl:=inS h2;exact lQ hT hcc h1 (d7 ho)
     ·cases h2
    ·split at h2
     ·rename_i hT;obtain rfl:=inS h2;exact e8 hT hcc h1
     ·cases h2
    ·split at h2
     ·rename_i hT;obtain rfl:=inS h2;exact lJ (es:=[]) hT hcc h1 Le.nil
     ·cases h2
    ·split at h2
     ·rename_i hT ho;obtain rfl:=inS h2;exact ua hT hcc h1 ho
     ·cases h2
    ·cases h2
   ·rename_i x y T1 T2 hc ha hg
    have hcc:c=⟨.builtin .max, #[x,y], #[T1,T2]⟩:=by
     obtain⟨c1,c2,c3⟩:=c
     simp only at hc ha hg
     subst hc
     have e2:c2= #[x,y]:=by rw[←ha]
     have e3:c3= #[T1,T2]:=by rw[←hg]
     rw[e2,e3]
    split at h
    ·rename_i hx hy
     have hk:=of_decide_eq_true (cz h).1
     have h3:=(cz h).2
     clear h
     subst hk
     obtain rfl:=inS h3
     obtain⟨z,h1,h2⟩:=bF hx
     rw[dw h2] at h1
     obtain⟨z',g1,g2⟩:=bF hy
     rw[dw g2] at g1
     exact t7 hcc h1 g1
    ·cases h
   ·rename_i x y T1 T2 hc ha hg
    have hcc:c=⟨.builtin .min, #[x,y], #[T1,T2]⟩:=by
     obtain⟨c1,c2,c3⟩:=c
     simp only at hc ha hg
     subst hc
     have e2:c2= #[x,y]:=by rw[←ha]
     have e3:c3= #[T1,T2]:=by rw[←hg]
     rw[e2,e3]
    split at h
    ·rename_i hx hy
     have hk:=of_decide_eq_true (cz h).1
     have h3:=(cz h).2
     clear h
     subst hk
     obtain rfl:=inS h3
     obtain⟨z,h1,h2⟩:=bF hx
     rw[dw h2] at h1
     obtain⟨z',g1,g2⟩:=bF hy
     rw[dw g2] at g1
     exact t6 hcc h1 g1
    ·cases h
   ·cases h
  ·obtain⟨z,h1,h2⟩:=bF h
   exact xg h1 h2
  ·rename_i b T x y T' _ _
   split at h
   ·rename_i k p k' q hx hy
    obtain⟨z,h1,h2⟩:=bF hx
    rw[dw h2] at h1
    obtain⟨z',g1,g2⟩:=bF hy
    rw[dw g2] at g1
    split at h
    ·rename_i r' hr
     obtain rfl:=inS h
     cases b<;>simp only[shX] at hr<;>first|cases hr|skip
     ·obtain⟨h0,hr⟩:=cz hr;obtain rfl:=inS hr;exact y_shl h1 g1 (of_decide_eq_true h0) rfl
     ·obtain⟨h0,hr⟩:=cz hr;obtain rfl:=inS hr;exact mZ h1 g1 (of_decide_eq_true h0)
    ·obtain⟨hk,h⟩:=cz h
     obtain rfl:=of_decide_eq_true hk
     cases b<;>simp only[bitX] at h<;>first|cases h|skip
     ·obtain⟨h0,h⟩:=bifN h;obtain rfl:=inS h;exact y_quo h1 g1 (of_decide_eq_false h0) rfl
     ·obtain⟨h0,h⟩:=bifN h;obtain rfl:=inS h;exact y_rem h1 g1 (of_decide_eq_false h0)
     ·exact o3 h1 g1 rfl
     ·exact yQ h1 g1 rfl
     ·exact y_xor h1 g1 rfl
   ·split at h
    ·rename_i hq
     obtain rfl:=inS h
     exact Aj hq
    ·exact xA h
  ·obtain⟨z,h1,h2⟩:=bF h
   unfold uq at h2
   split at h2
   ·split at h2
    ·rename_i hT hl hhi
     obtain⟨hc,h2⟩:=cz h2
     obtain rfl:=inS h2
     simp only[Bool.and_eq_true] at hc
     exact ru hT h1 (Le.refl _) (oF hl) (oF hhi) (of_decide_eq_true hc.1) (of_decide_eq_true hc.2.1) (λe he=>nbE (List.all_eq_true.1 hc.2.2 e he))
    ·cases h2
   ·cases h2
  ·unfold b2X at h
   split at h
   ·rename_i hx hS hT
    split at h
    ·rename_i ho he
     split at h
     ·rename_i bs hb
      obtain rfl:=inS h
      exact y_b2s hS he hT hx (d7 ho) hb
     ·cases h
    ·cases h
   ·cases h
  ·exact zD h
  ·exact vu h
  ·unfold vN at h
   split at h
   ·rename_i pl zs xs hp hz hx
    split at h
    ·rename_i cs hf
     obtain rfl:=inS h
     exact ug hp hz hx hf
    ·cases h
   ·unfold sG at h
    split at h
    ·rename_i hp hz hx
     split at h
     ·rename_i cs hf
      obtain rfl:=inS h
      exact lU hp hz hx hf
     ·cases h
    ·cases h
  ·split at h
   ·rename_i hx hi hT
    obtain⟨z,h1,h2⟩:=bF hi
    rw[dw h2] at h1
    split at h
    ·rename_i hr
     obtain rfl:=inS h
     exact cL hT hx h1 hr
    ·cases h
   ·rename_i hx hi _
    obtain⟨z,h1,h2⟩:=bF hi
    rw[dw h2] at h1
    exact zK hx h1 h
   ·cases h
  ·cases h
end
theorem Does.nil_os{P:Program}{env:Env}{st st':List AO}{o:Oper}{r:AV}(t T k:Nat)(ht:env.get t=some (.d (.v (.slice none 0 0))))(h:Does P ((t, .os st.length 0)::env) (st++ [.os T k 0 []]) o r st'):Does P env st o r st':=λm φ a w hs he=>by
 obtain⟨h1,h2⟩:=lm (T:=T) (k:=k) hs
 have h3:EnvOk (m++ [.tok 0 (.slice none 0 0)]) φ w env a:=he.mono (Pre.append _ _) (Fz.refl φ w)
 have h4:EnvOk (m++ [.tok 0 (.slice none 0 0)]) φ w ((t, .os st.length 0)::env) a:=⟨λs x hx=>by
  unfold Env.get at hx
  cases hb:Nat.beq s t with
  |true=>
   rw[hb] at hx
   simp only[cdT,am] at hx
   subst hx
   have:s=t:=nbE hb
   subst this
   obtain⟨v,g1,g2⟩:=he s _ ht
   simp only[RA,RD] at g2
   subst g2
   refine⟨_,g1,?_⟩
   simp only[RA]
   exact⟨0,_,by rw[←hs.len];simp,Nat.le_refl _,λ_=>rfl⟩
  |false=>rw[hb] at hx;exact h3 s x hx,h3.gl⟩
 obtain⟨v,w',m',φ',k1,k2,k3,k4⟩:=h _ φ a w h2 h4
 exact⟨v,w',m',φ',k1,h1.trans k2,k3,k4⟩
def jo(k:Nat):Nat→List AV→List (List AV)
 |0,_=> []
 |n+1,xs=>xs.take k::jo k n (xs.drop k)
theorem nB(k:Nat):∀(n:Nat)(xs:List AV),xs.length=n*k→(jo k n xs).flatten=xs∧(jo k n xs).length=n∧∀e∈jo k n xs,e.length=k
 |0,xs,h=>by
  have:xs=[]:=List.eq_nil_of_length_eq_zero (by simpa using h)
  subst this
  exact⟨rfl,rfl,λe he=>by cases he⟩
 |n+1,xs,h=>by
  have hk:k≤xs.length:=by rw[h,Nat.succ_mul];omega
  obtain⟨h1,h2,h3⟩:=nB k n (xs.drop k) (by rw[List.length_drop,h,Nat.succ_mul];omega)
  refine⟨?_,?_,λe he=>?_⟩
  ·show xs.take k++(jo k n (xs.drop k)).flatten=xs
   rw[h1,List.take_append_drop]
  ·show(jo k n (xs.drop k)).length+1=n+1
   rw[h2]
  ·rcases List.mem_cons.1 he with rfl|he
   ·rw[List.length_take];omega
   ·exact h3 e he
theorem nv{k:Nat}:∀{es:List (List AV)},(∀e∈es,e.length=k)→es.flatten.length=es.length*k
 |[],_=>sM
 |e::es,h=>by
  rw[List.flatten_cons,List.length_append,nv (λe' he=>h e' (List.mem_cons_of_mem _ he)),h e List.mem_cons_self,List.length_cons,Nat.succ_mul]
  omega
def ze(st:List AO)(k:Nat):AV→Option (List (List AV))
 | .d (.sl ds)=>bif ds.all (λe=>Nat.beq e.length k) then some (ds.map λe=>e.map AV.d) else none
 | .os id ver=>match osA st id ver with
  |some (_,k',fs)=>bif Nat.beq k' k then some fs else none
  |none=>none
 | .d (.v (.slice none 0 0))=>some []
 |_=>none
theorem wv{st:List AO}{k:Nat}{x:AV}{fs:List (List AV)}(h:ze st k x=some fs):Src st x k fs:=by
 unfold ze at h
 split at h
 ·obtain⟨hc,h⟩:=cz h
  obtain rfl:=inS h
  exact Src.data (Le.refl _) (λe he=>nbE (List.all_eq_true.1 hc e he))
 ·split at h
  ·rename_i ho
   obtain⟨hc,h⟩:=cz h
   obtain rfl:=inS h
   have e:=nbE hc
   subst e
   exact Src.own (d7 ho)
  ·cases h
 ·obtain rfl:=inS h
  exact Src.data (ds:=[]) Le.nil (λe he=>by cases he)
 ·cases h
def xQ(P:Program)(env:Env)(st:List AO)(s x:Operand)(T:Nat):Option (AV×List AO):=
 match opv env s,opv env x,cq P T with
 |some (.os id ver),some xr,some (e,k,by_)=>(match osA st id ver,ze st k xr,aM P e with
  |some (e',k',es),some fs,some zs=>bif Nat.beq e' e&&(Nat.beq k' k&&(Nat.beq zs.length k&&(Nat.blt 0 k&&(fs.flatten.all (AV.ok1S st)&&(fs.all (λf=>Nat.beq f.length k)&&(decide (es.length+fs.length≤maxLen)&&decide ((es.length+fs.length)*by_≤140737488355328)))))))
   then dj (es++fs) (λes'=>some (.os id (ver+1),st.set id (.os e k (ver+1) es'))) else none
  |_,_,_=>none)
 |_,_,_=>none
def qD(P:Program)(env:Env)(st:List AO)(T:Nat)(x y:Operand):Option (AV×List AO):=
 match opv env x,opv env y,bi P T with
 |some (.pt id off),some r,some n=>(match st[id]? with
  |some (.row T' cs)=>bif r.okS st&&(r.cells.all (AV.ok1S st)&&(Nat.beq r.cells.length n&&Nat.ble (off+n) cs.length)) then dj (cs.take off++r.cells++cs.drop (off+n)) (λcs'=>some (.d (.v undef),st.set id (.row T' cs'))) else none
  |_=>none)
 |some (.pe id ver off),some r,some n=>(match osA st id ver with
  |some (T',k,es)=>bif r.okS st&&(r.cells.all (AV.ok1S st)&&(Nat.beq r.cells.length n&&(decide (off+n≤es.flatten.length)&&es.all λe=>Nat.beq e.length k)))
   then dj (es.flatten.take off++r.cells++es.flatten.drop (off+n)) (λfl=>dj (jo k es.length fl) λes'=>some (.d (.v undef),st.set id (.os T' k ver es'))) else none
  |none=>none)
 |_,_,_=>none
def mkX(P:Program)(env:Env)(st:List AO)(T:Nat)(x y:Operand):Option (AV×List AO):=
 match(opv env x).bind kx,(opv env y).bind kx,cq P T with
 |some (_,n),some (_,n'),some (e,k,by_)=>(match aM P e with
  |some zs=>bif decide (n=n')&&(Nat.beq zs.length k&&(Nat.blt 0 k&&mh by_ n)) then some (.os st.length 0,st++ [.os e k 0 (List.replicate n.toNat (zs.map λz=> .d (.v z)))]) else none
  |none=>none)
 |_,_,_=>none
def As(P:Program)(env:Env)(st:List AO)(T len:Nat)(parts:Array (Nat×Operand)):Option (AV×List AO):=
 bif Nat.beq len 0&&parts.isEmpty then(match cq P T with
  |some (e,k,_)=>some (.os st.length 0,st++ [.os e k 0 []])
  |none=>none) else
 match cq P T,bU env (parts.toList.map (·.2)) with
 |some (e,k,_),some xs=>(match aM P e with
  |some zs=>bif Nat.beq zs.length k&&(decide (len*k≤16777216)&&(Nat.blt 0 (len*k)&&(decide (parts.toList.map (·.1)=List.range len)&&((xs.all λx=>x.okS st&&Nat.beq x.cells.length k)&&decide (len≤maxLen)))))
   then some (.os st.length 0,st++ [.os e k 0 (xs.map AV.cells)]) else none
  |none=>none)
 |_,_=>none
def appN(P:Program)(env:Env)(st:List AO)(s x:Operand)(T:Nat):Option (AV×List AO):=
 match s with
 | .tmp t=>(match env.get t,cq P T with
  |some (.d (.v (.slice none 0 0))),some (e,k,_)=>xQ P ((t, .os st.length 0)::env) (st++ [.os e k 0 []]) s x T
  |_,_=>none)
 |_=>none
def zm(P:Program)(env:Env)(st:List AO)(T:Nat)(x:Operand)(hi:Operand):Option (AV×List AO):=
 match opv env x,aH P T,vO env (some hi) 0 with
 |some (.os id ver),some (k,_),some h=>(match osA st id ver with
  |some (e,k',es)=>bif Nat.beq k k'&&Nat.ble h es.length then some (.os id (ver+1),st.set id (.os e k (ver+1) (es.take h))) else none
  |none=>none)
 |_,_,_=>none
def Ag(P:Program)(env:Env)(st:List AO):Op→Option (AV×List AO)
 | .box T x=>match opv env x with
  |some r=>bif r.okS st then some (.pt st.length 0,st++ [.row T r.cells]) else none
  |none=>none
 | .alloc T=>match aM P T with
  |some vs=>some (.pt st.length 0,st++ [.row T (vs.map λv=> .d (.v v))])
  |none=>none
 | .store T x y=>qD P env st T x y
 | .makeSlice T x y=>mkX P env st T x y
 | .buildSlice T len parts=>As P env st T len parts
 | .makeMap _ none=>some (.mp st.length,st++ [.mb [] [] 0])
 | .insert T x ki v=>muX P env st T x ki v
 | .mapUpdate T x ki v=>muX P env st T x ki v
 | .range T x=>rgX P env st T x
 | .slice T x none (some hi) none=>zm P env st T x hi
 | .call c=>(match c.callee,c.args.toList,c.argTypes.toList with
  | .builtin .append,[s,x],[T,T']=>bif Nat.beq T T' then(match xQ P env st s x T with
   |some r=>some r
   |none=>appN P env st s x T) else none
  |_,_,_=>none)
 |_=>none
def exD(P:Program)(env:Env)(st:List AO)(op:Op):Option (AV×List AO):=match Ag P env st op with
 |some (r,s)=>dj s λs'=>some (r,s')
 |none=>none
section
variable{P:Program}{env:Env}{st st':List AO}{dst:Option Tmp}{ty:TypeId}{pos:String}{after:Array Edge}{guard:Option (Nat×Bool)}
theorem te{T:Nat}{x y:Operand}{r:AV}(h:qD P env st T x y=some (r,st')):Does P env st ⟨dst, .store T x y,ty,pos,after,guard⟩ r st':=by
 unfold qD at h
 split at h
 ·rename_i hx hy hn
  split at h
  ·rename_i hs
   obtain⟨hc,h⟩:=cz h
   rw[db] at h
   simp only[am,Prod.mk.injEq] at h
   obtain⟨rfl,rfl⟩:=h
   simp only[Bool.and_eq_true] at hc
   exact vB hx hs hy hc.1 rfl hc.2.1 hn (nbE hc.2.2.1) hc.2.2.2
  ·cases h
 ·rename_i id ver off r0 n hx hy hn
  split at h
  ·rename_i T' k es ho
   obtain⟨hc,h⟩:=cz h
   rw[db,db] at h
   simp only[am,Prod.mk.injEq] at h
   obtain⟨rfl,rfl⟩:=h
   simp only[Bool.and_eq_true,decide_eq_true_eq] at hc
   obtain⟨c1,c2,c3,c4,c5⟩:=hc
   have c3:=nbE c3
   have hk:∀e∈es,e.length=k:=λe he=>nbE (List.all_eq_true.1 c5 e he)
   have hf:=nv hk
   obtain⟨q1,q2,q3⟩:=nB k es.length (es.flatten.take off++r0.cells++es.flatten.drop (off+n)) (by
    rw[List.length_append,List.length_append,List.length_take,List.length_drop,c3,←hf];omega)
   exact pS hx (d7 ho) hy c1 rfl c2 hn c3 c4 q1 q2 q3
  ·cases h
 ·cases h
theorem zx{T:Nat}{x y:Operand}{r:AV}(h:mkX P env st T x y=some (r,st')):Does P env st ⟨dst, .makeSlice T x y,ty,pos,after,guard⟩ r st':=by
 unfold mkX at h
 split at h
 ·rename_i hx hy hT
  split at h
  ·rename_i hz
   obtain⟨hc,h⟩:=cz h
   simp only[am,Prod.mk.injEq] at h
   obtain⟨rfl,rfl⟩:=h
   simp only[Bool.and_eq_true,decide_eq_true_eq] at hc
   obtain⟨rfl,c1,c2,c3⟩:=hc
   obtain⟨z,h1,h2⟩:=bF hx
   rw[dw h2] at h1
   obtain⟨z',g1,g2⟩:=bF hy
   rw[dw g2] at g1
   exact(cY hT hz (nbE c1) (nbT c2) h1 g1 c3).b.does
  ·cases h
 ·cases h
theorem xO{T len:Nat}{parts:Array (Nat×Operand)}{r:AV}(h:As P env st T len parts=some (r,st')):Does P env st ⟨dst, .buildSlice T len parts,ty,pos,after,guard⟩ r st':=by
 unfold As at h
 cases h0:Nat.beq len 0&&parts.isEmpty with
 |true=>
  rw[h0,cdT] at h
  rw[Bool.and_eq_true] at h0
  have e0:=nbE h0.1
  have e1:parts= #[]:=by simpa using h0.2
  subst e0
  subst e1
  split at h
  ·rename_i hT
   simp only[am,Prod.mk.injEq] at h
   obtain⟨rfl,rfl⟩:=h
   exact(kY hT).b.does
  ·cases h
 |false=>
 rw[h0,cdF] at h
 split at h
 ·rename_i hT hx
  split at h
  ·rename_i hz
   obtain⟨hc,h⟩:=cz h
   simp only[am,Prod.mk.injEq] at h
   obtain⟨rfl,rfl⟩:=h
   simp only[Bool.and_eq_true,decide_eq_true_eq] at hc
   obtain⟨c1,c2,c3,c4,c5,c6⟩:=hc
   exact(mV hT hz (nbE c1) c2 (nbT c3) c4 hx c5 c6).b.does
  ·cases h
 ·cases h
theorem sJ{T:Nat}{s x:Operand}{c:Call}{r:AV}(hcc:c=⟨.builtin .append, #[s,x], #[T,T]⟩)(h2:xQ P env st s x T=some (r,st')):Does P env st ⟨dst, .call c,ty,pos,after,guard⟩ r st':=by
 unfold xQ at h2
 split at h2
 ·rename_i hs hx hT
  split at h2
  ·rename_i ho hsrc hz
   obtain⟨hc',h3⟩:=cz h2
   rw[db] at h3
   simp only[am,Prod.mk.injEq] at h3
   obtain⟨rfl,rfl⟩:=h3
   simp only[Bool.and_eq_true,decide_eq_true_eq] at hc'
   obtain⟨c1,c2,c3,c4,c5,c6,c7,c8⟩:=hc'
   have c1:=nbE c1
   have c2:=nbE c2
   subst c1 c2
   exact tK (_T':=0) hT hz (nbE c3) (nbT c4) hcc hs (d7 ho) hx (wv hsrc) c5 (λf hf=>nbE (List.all_eq_true.1 c6 f hf)) c7 c8
  ·cases h2
 ·cases h2
theorem wA{T:Nat}{x hi:Operand}{r:AV}(h:zm P env st T x hi=some (r,st')):Does P env st ⟨dst, .slice T x none (some hi) none,ty,pos,after,guard⟩ r st':=by
 unfold zm at h
 split at h
 ·rename_i id ver k bb n hx hT hb
  split at h
  ·rename_i e k' es ho
   obtain⟨hc,h⟩:=cz h
   simp only[am,Prod.mk.injEq] at h
   obtain⟨rfl,rfl⟩:=h
   rw[Bool.and_eq_true] at hc
   have hk:=nbE hc.1
   subst hk
   have hbd:Bnd env (some hi) es.length n:=by
    have:=oF hb
    exact this
   exact yu hT hx (d7 ho) hbd (nbT hc.2)
  ·cases h
 ·cases h
theorem xy{op:Op}{r:AV}(h:Ag P env st op=some (r,st')):Does P env st ⟨dst,op,ty,pos,after,guard⟩ r st':=by
 unfold Ag at h
 split at h
 ·split at h
  ·rename_i hx
   obtain⟨hc,h⟩:=cz h
   simp only[am,Prod.mk.injEq] at h
   obtain⟨rfl,rfl⟩:=h
   exact(Au hx hc).does
  ·cases h
 ·split at h
  ·rename_i hz
   simp only[am,Prod.mk.injEq] at h
   obtain⟨rfl,rfl⟩:=h
   exact(sH hz).does
  ·cases h
 ·exact te h
 ·exact zx h
 ·exact xO h
 ·simp only[am,Prod.mk.injEq] at h
  obtain⟨rfl,rfl⟩:=h
  exact uG.does
 ·exact uC (.inl rfl) h
 ·exact uC (.inr rfl) h
 ·exact uv h
 ·exact wA h
 ·rename_i c
  split at h
  ·rename_i s x T T' hc ha hg
   have hTT:=(cz h).1
   have h2:=(cz h).2
   clear h
   obtain rfl:=nbE hTT
   have hcc:c=⟨.builtin .append, #[s,x], #[T,T]⟩:=by
    obtain⟨c1,c2,c3⟩:=c
    subst hc
    have e2:c2= #[s,x]:=by rw[←ha]
    have e3:c3= #[T,T]:=by rw[←hg]
    rw[e2,e3]
   split at h2
   ·rename_i r' hr'
    obtain rfl:=inS h2
    exact sJ hcc hr'
   ·unfold appN at h2
    split at h2
    ·split at h2
     ·rename_i e k _ hg he
      exact Does.nil_os _ e k hg (sJ hcc h2)
     ·cases h2
    ·cases h2
  ·cases h
 ·cases h
theorem oA{op:Op}{r:AV}(h:exD P env st op=some (r,st')):Does P env st ⟨dst,op,ty,pos,after,guard⟩ r st':=by
 unfold exD at h
 split at h
 ·rename_i hx
  rw[db] at h
  simp only[am,Prod.mk.injEq] at h
  obtain⟨rfl,rfl⟩:=h
  exact xy hx
 ·cases h
end
abbrev bH:=FuncId→List AV→List AO→Option (AV×List AO)
def cC(P:Program)(call:bH):Prop:=∀f asz st r st',call f asz st=some (r,st')→Ctr P f asz st (λr' s'=>r'=r∧s'=st')
def jD(nt:Nat)(o:Oper)(env:Env)(r:AV)(st:List AO):Option (Env×List AO):=match o.dst with
 |some d=>bif Nat.ble (d+1) nt then some ((d,r)::env,st) else none
 |none=>some (env,st)
def nilX(P:Program)(env:Env)(st:List AO):Op→Option (Env×List AO)
 | .call c=>(match c.args.toList,c.argTypes.toList with
  |[.tmp s,_],[T,_]=>(match env.get s,cq P T with
   |some (.d (.v (.slice none 0 0))),some (e,k,_)=>some ((s, .os st.length 0)::env,st++ [.os e k 0 []])
   |_,_=>none)
  |_,_=>none)
 |_=>none
def sF(call:bH)(env:Env)(st:List AO):Op→Option (AV×List AO)
 | .call c=>(match c.callee with
  | .value x=>(match opv env x,bU env c.args.toList with
   |some (.fn (.func f) first caps),some asz=>call f (first++asz++caps) st
   |_,_=>none)
  |_=>none)
 |_=>none
abbrev kJ:=Nat→List AV→List AO→Option (AV×List AO)
def mI(P:Program)(yld:kJ):Prop:=∀id asz st r st',yld id asz st=some (r,st')→∀(e:En)(ops:Array Oper)(rest:List Oper)(o:Oper)(env:Env)(R:Env→List AO→Prop)(c:Call)(x:Operand)(d:Nat),
 o.op= .call c→c.callee= .value x→opv env x=some (.yl id)→bU env c.args.toList=some asz→Wt ops env o true→o.dst=some d→Nat.ble (d+1) e.n=true→WL P e ops rest ((d,r)::env) st' R→WL P e ops (o::rest) env st R
def ylX(yld:kJ)(env:Env)(st:List AO):Op→Option (AV×List AO)
 | .call c=>(match c.callee with
  | .value x=>(match opv env x,bU env c.args.toList with
   |some (.yl id),some asz=>yld id asz st
   |_,_=>none)
  |_=>none)
 |_=>none
def exE(P:Program)(t:Ty)(nt:Nat)(call:bH)(yld:kJ)(ops:Array Oper)(env:Env)(st:List AO)(o:Oper):Option (Env×List AO):=
 match gF ops env o.guard with
 |none=>none
 |some false=>jD nt o env (.d (.v undef)) st
 |some true=>match exY P t env st o.op with
  |some r=>(match o.dst with
   |some _=>jD nt o env r st
   |none=>none)
  |none=>(match exD P env st o.op with
   |some (r,st')=>jD nt o env r st'
   |none=>(match sF call env st o.op with
    |some (r,st')=>(match o.dst with
     |some _=>jD nt o env r st'
     |none=>none)
    |none=>(match nilX P env st o.op with
     |some (env1,st1)=>(match gF ops env1 o.guard,exD P env1 st1 o.op with
      |some true,some (r,st')=>jD nt o env1 r st'
      |_,_=>none)
     |none=>(match ylX yld env st o.op with
      |some (r,st')=>(match o.dst with
       |some _=>jD nt o env r st'
       |none=>none)
      |none=>none))))
abbrev dH:=Oper→Env→List AO→Option (Env×List AO)
def fN(hook:dH):Prop:=∀(e:En) o env st env' st',hook o env st=some (env',st')→Gh e env st env' st'
def exL(P:Program)(t:Ty)(nt:Nat)(call:bH)(yld:kJ)(hook:dH)(ops:Array Oper):List Oper→Env→List AO→Option (Env×List AO)
 |[],env,st=>some (env,st)
 |o::l,env,st=>match hook o env st with
  |some (env1,st1)=>(match exE P t nt call yld ops env1 st1 o with
   |some (env',st')=>exL P t nt call yld hook ops l env' st'
   |none=>none)
  |none=>(match exE P t nt call yld ops env st o with
   |some (env',st')=>exL P t nt call yld hook ops l env' st'
   |none=>none)
section
variable{P:Program}{t:Ty}{nt:Nat}{call:bH}{yld:kJ}{e:En}{ops:Array Oper}{l:List Oper}{R:Env→List AO→Prop}{env env':Env}{st st':List AO}
theorem yI{o:Oper}{r:AV}(hw:Wt ops env o true)(hy:Does P env st o r st')(hn:e.n=nt)(hp:jD nt o env r st'=some (env',st'))(k:WL P e ops l env' st' R):WL P e ops (o::l) env st R:=by
 unfold jD at hp
 split at hp
 ·rename_i d hd
  obtain⟨hb,hp⟩:=cz hp
  simp only[am,Prod.mk.injEq] at hp
  obtain⟨rfl,_⟩:=hp
  exact WL.s hy hw hd (by rw[hn];exact hb) k
 ·rename_i hd
  simp only[am,Prod.mk.injEq] at hp
  obtain⟨rfl,_⟩:=hp
  exact WL.s0 hy hw hd k
theorem rI{o:Oper}{r:AV}{s:List AO}(h:jD nt o env r s=some (env',st')):st'=s:=by
 unfold jD at h
 split at h
 ·obtain⟨_,h⟩:=cz h
  simp only[am,Prod.mk.injEq] at h
  exact h.2.symm
 ·simp only[am,Prod.mk.injEq] at h
  exact h.2.symm
theorem rb(ht:t.ok P=true)(hc:cC P call)(hyl:mI P yld)(hn:e.n=nt){o:Oper}(h:exE P t nt call yld ops env st o=some (env',st'))(k:WL P e ops l env' st' R):WL P e ops (o::l) env st R:=by
 unfold exE at h
 split at h
 ·cases h
 ·rename_i hw
  unfold jD at h
  split at h
  ·rename_i d hd
   obtain⟨hb,h⟩:=cz h
   simp only[am,Prod.mk.injEq] at h
   obtain⟨rfl,rfl⟩:=h
   exact WL.skip (cD hw) hd (by rw[hn];exact hb) k
  ·rename_i hd
   simp only[am,Prod.mk.injEq] at h
   obtain⟨rfl,rfl⟩:=h
   exact WL.skip0 (cD hw) hd k
 ·rename_i hw
  have hw:=cF hw
  split at h
  ·rename_i r hr
   split at h
   ·rename_i d hd
    unfold jD at h
    rw[hd] at h
    obtain⟨hb,h⟩:=cz h
    simp only[am,Prod.mk.injEq] at h
    obtain⟨rfl,rfl⟩:=h
    obtain⟨od,oop,oty,opos,oaf,og⟩:=o
    exact WL.q (vh ht hr) hw hd (by rw[hn];exact hb) k
   ·cases h
  ·split at h
   ·rename_i r s hr
    obtain rfl:=rI h
    obtain⟨od,oop,oty,opos,oaf,og⟩:=o
    exact yI hw (oA hr) hn h k
   ·split at h
    ·rename_i r s hr
     split at h
     ·rename_i d hd
      unfold jD at h
      rw[hd] at h
      obtain⟨hb,h⟩:=cz h
      simp only[am,Prod.mk.injEq] at h
      obtain⟨rfl,rfl⟩:=h
      unfold sF at hr
      split at hr
      ·rename_i c hop
       split at hr
       ·rename_i x hx
        split at hr
        ·rename_i f first caps asz hf has
         refine WL.call (Q:=λr' s'=>r'=r∧s'=s) hop hx hf has (hc _ _ _ _ _ hr) (Les.refl _) hw hd (by rw[hn];exact hb) λr' s' hq=>?_
         obtain⟨rfl,rfl⟩:=hq
         exact k
        ·cases hr
       ·cases hr
      ·cases hr
     ·cases h
    ·split at h
     ·rename_i env1 st1 h1
      split at h
      ·rename_i r s hw1 hr
       obtain rfl:=rI h
       unfold nilX at h1
       split at h1
       ·split at h1
        ·split at h1
         ·rename_i T1 k1 _ hg he
          simp only[am,Prod.mk.injEq] at h1
          obtain⟨rfl,rfl⟩:=h1
          refine WL.nil_os _ T1 k1 hg ?_
          obtain⟨od,oop,oty,opos,oaf,og⟩:=o
          exact yI (cF hw1) (oA hr) hn h k
         ·cases h1
        ·cases h1
       ·cases h1
      ·cases h
     ·split at h
      ·rename_i r s hr
       split at h
       ·rename_i d hd
        unfold jD at h
        rw[hd] at h
        obtain⟨hb,h⟩:=cz h
        simp only[am,Prod.mk.injEq] at h
        obtain⟨rfl,rfl⟩:=h
        unfold ylX at hr
        split at hr
        ·rename_i c hop
         split at hr
         ·rename_i x hx
          split at hr
          ·rename_i id asz hf has
           exact hyl _ _ _ _ _ hr _ _ _ _ _ _ _ _ _ hop hx hf has hw hd (by rw[hn];exact hb) k
          ·cases hr
         ·cases hr
        ·cases hr
       ·cases h
      ·cases h
theorem q'(ht:t.ok P=true)(hc:cC P call)(hyl:mI P yld){hook:dH}(hh:fN hook)(hn:e.n=nt):∀{l:List Oper}{env:Env}{st:List AO},exL P t nt call yld hook ops l env st=some (env',st')→R env' st'→WL P e ops l env st R
 |[],env,st,h,k=>by
  simp only[exL,am,Prod.mk.injEq] at h
  obtain⟨rfl,rfl⟩:=h
  exact WL.nil k
 |o::l,env,st,h,k=>by
  unfold exL at h
  split at h
  ·rename_i hk
   split at h
   ·rename_i hs
    exact(hh e _ _ _ _ _ hk).wl (rb ht hc hyl hn hs (q' ht hc hyl hh hn h k))
   ·cases h
  ·split at h
   ·rename_i hs
    exact rb ht hc hyl hn hs (q' ht hc hyl hh hn h k)
   ·cases h
end
def eqV:Value→Value→Bool
 | .int k a, .int k' b=>decide (k=k')&&decide (a=b)
 | .bool a, .bool b=>a==b
 | .slice none 0 0, .slice none 0 0=>true
 | .pointer none, .pointer none=>true
 | .map none, .map none=>true
 | .tuple a, .tuple b=>a.toList.isEmpty&&b.toList.isEmpty
 | .string a, .string b=>a.data.toList==b.data.toList
 |_,_=>false
theorem vq:∀{a b:Value},eqV a b=true→a=b:=by
 intro a b h
 unfold eqV at h
 split at h
 ·simp only[Bool.and_eq_true,decide_eq_true_eq] at h
  rw[h.1,h.2]
 ·simp only[beq_iff_eq] at h
  rw[h]
 ·rfl
 ·rfl
 ·rfl
 ·rename_i a b
  obtain⟨a⟩:=a;obtain⟨b⟩:=b
  rw[Bool.and_eq_true,List.isEmpty_iff,List.isEmpty_iff] at h
  simp only at h
  rw[h.1,h.2]
 ·rename_i a b
  rw[beq_iff_eq] at h
  have:a=b:=by
   obtain⟨⟨a⟩⟩:=a;obtain⟨⟨b⟩⟩:=b
   simp only at h
   rw[h]
  rw[this]
 ·cases h
mutual
def eqD:D→D→Bool
 | .v a, .v b=>eqV a b
 | .sl a, .sl b=>eqDss a b
 | .pc a, .pc b=>eqDs a b
 | .ag a, .ag b=>eqDs a b
 | .tu a, .tu b=>eqDs a b
 |_,_=>false
def eqDs:List D→List D→Bool
 |[],[]=>true
 |x::a,y::b=>eqD x y&&eqDs a b
 |_,_=>false
def eqDss:List (List D)→List (List D)→Bool
 |[],[]=>true
 |x::a,y::b=>eqDs x y&&eqDss a b
 |_,_=>false
end
mutual
theorem re:∀{a b:D},eqD a b=true→a=b
 | .v a,b,h=>by
  cases b<;>first|(simp only[eqD] at h;rw[vq h])|simp[eqD] at h
 | .sl a,b,h=>by
  cases b<;>first|(simp only[eqD] at h;rw[eqDss_ok h])|simp[eqD] at h
 | .pc a,b,h=>by
  cases b<;>first|(simp only[eqD] at h;rw[eqDs_ok h])|simp[eqD] at h
 | .ag a,b,h=>by
  cases b<;>first|(simp only[eqD] at h;rw[eqDs_ok h])|simp[eqD] at h
 | .tu a,b,h=>by
  cases b<;>first|(simp only[eqD] at h;rw[eqDs_ok h])|simp[eqD] at h
 | .ifc t a,b,h=>by simp[eqD] at h
 | .fnc f a c,b,h=>by simp[eqD] at h
theorem eqDs_ok:∀{a b:List D},eqDs a b=true→a=b
 |[],b,h=>by cases b with
  |nil=>rfl
  |cons y b=>simp[eqDs] at h
 |x::a,b,h=>by cases b with
  |nil=>simp[eqDs] at h
  |cons y b=>
   simp only[eqDs,Bool.and_eq_true] at h
   rw[re h.1,eqDs_ok h.2]
theorem eqDss_ok:∀{a b:List (List D)},eqDss a b=true→a=b
 |[],b,h=>by cases b with
  |nil=>rfl
  |cons y b=>simp[eqDss] at h
 |x::a,b,h=>by cases b with
  |nil=>simp[eqDss] at h
  |cons y b=>
   simp only[eqDss,Bool.and_eq_true] at h
   rw[eqDs_ok h.1,eqDss_ok h.2]
end
mutual
def pP:AV→AV→Bool
 | .u, .u=>true
 | .d a, .d b=>eqD a b
 | .pt i o, .pt j p=>Nat.beq i j&&Nat.beq o p
 | .os i o, .os j p=>Nat.beq i j&&Nat.beq o p
 | .pe i v o, .pe j u p=>Nat.beq i j&&(Nat.beq v u&&Nat.beq o p)
 | .ag a, .ag b=>eqAVs a b
 | .tu a, .tu b=>eqAVs a b
 | .mp i, .mp j=>Nat.beq i j
 | .fn (.func f) a c, .fn (.func g) b d=>Nat.beq f g&&(eqAVs a b&&eqAVs c d)
 |_,_=>false
def eqAVs:List AV→List AV→Bool
 |[],[]=>true
 |x::a,y::b=>pP x y&&eqAVs a b
 |_,_=>false
end
mutual
theorem jP:∀{a b:AV},pP a b=true→a=b:=by
 intro a b h
 unfold pP at h
 split at h
 ·rfl
 ·rw[re h]
 ·simp only[Bool.and_eq_true] at h
  rw[nbE h.1,nbE h.2]
 ·simp only[Bool.and_eq_true] at h
  rw[nbE h.1,nbE h.2]
 ·simp only[Bool.and_eq_true] at h
  rw[nbE h.1,nbE h.2.1,nbE h.2.2]
 ·rw[eqAVs_ok h]
 ·rw[eqAVs_ok h]
 ·rw[nbE h]
 ·simp only[Bool.and_eq_true] at h
  rw[nbE h.1,eqAVs_ok h.2.1,eqAVs_ok h.2.2]
 ·cases h
theorem eqAVs_ok:∀{a b:List AV},eqAVs a b=true→a=b:=by
 intro a b h
 unfold eqAVs at h
 split at h
 ·rfl
 ·simp only[Bool.and_eq_true] at h
  rw[jP h.1,eqAVs_ok h.2]
 ·cases h
end
theorem vP{c a:Bool}(h:(bif c then a else false)=true):c=true∧a=true:=by
 cases c
 ·cases h
 ·exact⟨rfl,h⟩
def xC:List (Value×Nat)→List (Value×Nat)→Bool
 |[],[]=>true
 |x::xs,y::ys=>eqV x.1 y.1&&(Nat.beq x.2 y.2&&xC xs ys)
 |_,_=>false
theorem sx:∀{a b:List (Value×Nat)},xC a b=true→a=b
 |[],[],_=>rfl
 |(x,n)::xs,(y,k)::ys,h=>by
  simp only[xC,Bool.and_eq_true] at h
  rw[vq h.1,nbE h.2.1,sx h.2.2]
 |[],_::_,h=>by cases h
 |_::_,[],h=>by cases h
def xB:List Nat→List Nat→Bool
 |[],[]=>true
 |x::xs,y::ys=>Nat.beq x y&&xB xs ys
 |_,_=>false
theorem sw:∀{a b:List Nat},xB a b=true→a=b
 |[],[],_=>rfl
 |x::xs,y::ys,h=>by
  simp only[xB,Bool.and_eq_true] at h
  rw[nbE h.1,sw h.2]
 |[],_::_,h=>by cases h
 |_::_,[],h=>by cases h
def eqq(x y:AV):Bool:=match x,y with
 | .d (.v (.int k a)), .d (.v (.int k' b))=>bif decide (k=k') then decide (a=b) else false
 | .os i o, .os j p=>Nat.beq i j&&Nat.beq o p
 |x,y=>pP x y
theorem Ah{x y:AV}(h:eqq x y=true):x=y:=by
 unfold eqq at h
 split at h
 ·obtain⟨h1,h2⟩:=vP h
  rw[of_decide_eq_true h1,of_decide_eq_true h2]
 ·rw[Bool.and_eq_true] at h
  rw[nbE h.1,nbE h.2]
 ·exact jP h
def tH:List AV→List AV→Bool
 |[],[]=>true
 |x::xs,y::ys=>bif eqq x y then tH xs ys else false
 |_,_=>false
theorem oC:∀{a b:List AV},tH a b=true→a=b
 |[],[],_=>rfl
 |x::xs,y::ys,h=>by
  obtain⟨h1,h2⟩:=vP (show(bif eqq x y then tH xs ys else false)=true from h)
  rw[Ah h1,oC h2]
 |[],_::_,h=>by cases h
 |_::_,[],h=>by cases h
def sv:List (List AV)→List (List AV)→Bool
 |[],[]=>true
 |x::xs,y::ys=>bif tH x y then sv xs ys else false
 |_,_=>false
theorem pN:∀{a b:List (List AV)},sv a b=true→a=b
 |[],[],_=>rfl
 |x::xs,y::ys,h=>by
  obtain⟨h1,h2⟩:=vP (show(bif tH x y then sv xs ys else false)=true from h)
  rw[oC h1,pN h2]
 |[],_::_,h=>by cases h
 |_::_,[],h=>by cases h
def Ak:AO→AO→Bool
 | .row T cs, .row T' cs'=>Nat.beq T T'&&tH cs cs'
 | .os T k v es, .os T' k' v' es'=>Nat.beq T T'&&(Nat.beq k k'&&(Nat.beq v v'&&sv es es'))
 | .mb es xs c, .mb es' xs' c'=>Nat.beq c c'&&(xC es es'&&eqAVs xs xs')
 | .it s a b c, .it s' a' b' c'=>pP s s'&&(Nat.beq a a'&&(Nat.beq c c'&&xB b b'))
 | .dead, .dead=>true
 |_,_=>false
theorem xD{a b:AO}(h:Ak a b=true):a=b:=by
 unfold Ak at h
 split at h
 ·rw[Bool.and_eq_true] at h
  rw[nbE h.1,oC h.2]
 ·simp only[Bool.and_eq_true] at h
  rw[nbE h.1,nbE h.2.1,nbE h.2.2.1,pN h.2.2.2]
 ·simp only[Bool.and_eq_true] at h
  rw[nbE h.1,sx h.2.1,eqAVs_ok h.2.2]
 ·simp only[Bool.and_eq_true] at h
  rw[jP h.1,nbE h.2.1,nbE h.2.2.1,sw h.2.2.2]
 ·rfl
 ·cases h
def iM:List AO→List AO→Bool
 |[],[]=>true
 |x::xs,y::ys=>Ak x y&&iM xs ys
 |_,_=>false
theorem hG:∀{a b:List AO},iM a b=true→a=b
 |[],[],_=>rfl
 |x::xs,y::ys,h=>by
  simp only[iM,Bool.and_eq_true] at h
  rw[xD h.1,hG h.2]
 |[],_::_,h=>by cases h
 |_::_,[],h=>by cases h
theorem ou{F:Env}:∀{env:Env}{t:Nat}{x:AV},env.get t=some x→(env++F).get t=some x
 |[],t,x,h=>by cases h
 |(k,v)::env,t,x,h=>by
  show(bif Nat.beq t k then some v else Env.get (env++F) t)=some x
  have h:(bif Nat.beq t k then some v else Env.get env t)=some x:=h
  cases hb:Nat.beq t k with
  |true=>rw[hb] at h;exact h
  |false=>rw[hb] at h;exact ou h
theorem EnvOk.app{m:List Cz}{φ:Nat→Nat}{w:World}{env F:Env}{a:Act}(h:EnvOk m φ w (env++F) a):EnvOk m φ w env a:=⟨λt x hx=>h.get t x (ou hx),h.gl⟩
theorem n8{env F:Env}{x:Operand}{r:AV}(h:opv env x=some r):opv (env++F) x=some r:=by
 cases x with
 |tmp t=>exact ou h
 |_=>exact h
section
variable{P:Program}{env F:Env}{st st':List AO}{o:Oper}{r:AV}
theorem Yields.app(h:Yields P env st o r):Yields P (env++F) st o r:=λm φ a w hs he=>h m φ a w hs he.app
theorem Does.app(h:Does P env st o r st'):Does P (env++F) st o r st':=λm φ a w hs he=>h m φ a w hs he.app
end
theorem mf{env F:Env}:∀{l:List Operand}{xs:List AV},bU env l=some xs→bU (env++F) l=some xs
 |[],xs,h=>h
 |x::l,xs,h=>by
  unfold bU at h⊢
  split at h
  ·rename_i h1 h2
   rw[n8 h1,mf h2]
   exact h
  ·cases h
theorem Wt.app{ops:Array Oper}{env F:Env}{o:Oper}{b:Bool}(h:Wt ops env o b):Wt ops (env++F) o b:=λm φ w a he=>h m φ w a he.app
def l9(o:Oper)(r:AV)(env:Env):Env:=match o.dst with
 |some d=>(d,r)::env
 |none=>env
class PC(P:Program) where
 pc:FuncId→List AV→Option AV
 ok:∀f asz r st,pc f asz=some r→Ctr P f asz st (λr' s'=>r'=r∧s'=st)
def purX(P:Program)[PC P](env:Env):Op→Option AV
 | .call c=>(match c.callee with
  | .value x=>(match opv env x,bU env c.args.toList with
   |some (.fn (.func f) first caps),some asz=>PC.pc P f (first++asz++caps)
   |_,_=>none)
  |_=>none)
 |_=>none
def exP(P:Program)[PC P](t:Ty)(ops:Array Oper)(env:Env)(st:List AO)(o:Oper):Option AV:=
 match gF ops env o.guard with
 |none=>none
 |some false=>some (.d (.v undef))
 |some true=>match exY P t env st o.op with
  |some r=>(match o.dst with
   |some _=>some r
   |none=>none)
  |none=>(match purX P env o.op with
   |some r=>(match o.dst with
    |some _=>some r
    |none=>none)
   |none=>none)
def pM(P:Program)[PC P](t:Ty)(call:bH)(ops:Array Oper)(env:Env)(st:List AO)(o:Oper):Option (AV×List AO):=
 match exP P t ops env st o with
 |some r=>some (r,st)
 |none=>match gF ops env o.guard with
  |some true=>(match exD P env st o.op with
   |some rs=>some rs
   |none=>(match sF call env st o.op,o.dst with
    |some rs,some _=>some rs
    |_,_=>none))
  |_=>none
section
variable{P:Program}[PC P]{t:Ty}{call:bH}{e:En}{ops:Array Oper}{l:List Oper}{R:Env→List AO→Prop}{env F:Env}{st st':List AO}{o:Oper}{r:AV}
theorem vi(ht:t.ok P=true)(hd:∀d,o.dst=some d→Nat.ble (d+1) e.n=true)(h:exP P t ops env st o=some r)(k:WL P e ops l (l9 o r (env++F)) st R):WL P e ops (o::l) (env++F) st R:=by
 unfold exP at h
 split at h
 ·cases h
 ·rename_i hw
  obtain rfl:=inS h
  unfold l9 at k
  split at k
  ·rename_i d hdd;exact WL.skip (cD hw).app hdd (hd d hdd) k
  ·rename_i hdd;exact WL.skip0 (cD hw).app hdd k
 ·rename_i hw
  split at h
  ·rename_i r' hr
   split at h
   ·rename_i d hdd
    obtain rfl:=inS h
    unfold l9 at k
    rw[hdd] at k
    obtain⟨od,oop,oty,opos,oaf,og⟩:=o
    exact WL.q (vh ht hr).app (cF hw).app hdd (hd d hdd) k
   ·cases h
  ·split at h
   ·rename_i r' hr
    split at h
    ·rename_i d hdd
     obtain rfl:=inS h
     unfold l9 at k
     rw[hdd] at k
     unfold purX at hr
     split at hr
     ·rename_i c hop
      split at hr
      ·rename_i x hx
       split at hr
       ·rename_i f first caps asz hf has
        refine WL.call (Q:=λa b=>a=r'∧b=st) hop hx (n8 hf) (mf has) (PC.ok _ _ _ _ hr) (Les.refl _) (cF hw).app hdd (hd d hdd) λa b hq=>?_
        obtain⟨rfl,rfl⟩:=hq
        exact k
       ·cases hr
      ·cases hr
     ·cases hr
    ·cases h
   ·cases h
theorem so(ht:t.ok P=true)(hc:cC P call)(hd:∀d,o.dst=some d→Nat.ble (d+1) e.n=true)(h:pM P t call ops env st o=some (r,st'))(k:WL P e ops l (l9 o r (env++F)) st' R):WL P e ops (o::l) (env++F) st R:=by
 unfold pM at h
 split at h
 ·rename_i hp
  simp only[am,Prod.mk.injEq] at h
  obtain⟨rfl,rfl⟩:=h
  exact vi ht hd hp k
 ·split at h
  ·rename_i hw
   have hw:=(cF hw).app (F:=F)
   split at h
   ·rename_i rs hr
    obtain rfl:=inS h
    unfold l9 at k
    split at k
    ·rename_i d hdd
     obtain⟨od,oop,oty,opos,oaf,og⟩:=o
     exact WL.s (oA hr).app hw hdd (hd d hdd) k
    ·rename_i hdd
     obtain⟨od,oop,oty,opos,oaf,og⟩:=o
     exact WL.s0 (oA hr).app hw hdd k
   ·split at h
    ·rename_i rs d hr hdd
     obtain rfl:=inS h
     unfold l9 at k
     rw[hdd] at k
     unfold sF at hr
     split at hr
     ·rename_i c hop
      split at hr
      ·rename_i x hx
       split at hr
       ·rename_i f first caps asz hf has
        refine WL.call (Q:=λr' s'=>r'=r∧s'=st') hop hx (n8 hf) (mf has) (hc _ _ _ _ _ hr) (Les.refl _) hw hdd (hd d hdd) λr' s' hq=>?_
        obtain⟨rfl,rfl⟩:=hq
        exact k
       ·cases hr
      ·cases hr
     ·cases hr
    ·cases h
  ·cases h
end
def opT:List Operand→List Nat
 |[]=> []
 | .tmp t::l=>t::opT l
 |_::l=>opT l
def opsOf:Op→List Operand
 | .move x=> [x]
 | .assign x=> [x]
 | .pick c x y=> [c,x,y]
 | .load _ x=> [x]
 | .fieldAddr _ x _=> [x]
 | .field _ x _=> [x]
 | .nilCheck x=> [x]
 | .extract x _=> [x]
 | .unOp _ _ x=> [x]
 | .binOp _ _ x y _=> [x,y]
 | .convert _ _ x=> [x]
 | .makeFunc _ a b=>a.toList++b.toList
 | .indexAddr _ x y=> [x,y]
 | .index _ x y=> [x,y]
 | .box _ x=> [x]
 | .store _ x y=> [x,y]
 | .makeSlice _ x y=> [x,y]
 | .buildSlice _ _ ps=>ps.toList.map (·.2)
 | .build _ ps=>ps.toList.map (·.2)
 | .lookup _ x k _=> [x,k]
 | .insert _ x k v=> [x,k,v]
 | .mapUpdate _ x k v=> [x,k,v]
 | .range _ x=> [x]
 | .entry x=> [x]
 | .slice _ x lo hi _=>x::(lo.toList++hi.toList)
 | .call c=>(match c.callee with
  | .value x=>x::c.args.toList
  |_=>c.args.toList)
 |_=> []
def rW(l:List Oper)(x:Nat):Nat→Nat→Option Nat→Option Nat
 |0,_,acc=>acc
 |n+1,j,acc=>rW l x n (j+1) (match l[j]? with
  |some o=>bif o.dst==some x then some j else acc
  |none=>acc)
def gd(l:List Oper)(k:Nat):List Nat→List Nat×List Nat
 |[]=>([],[])
 |x::xs=>match rW l x k 0 none with
  |some j=>(j::(gd l k xs).1,(gd l k xs).2)
  |none=>((gd l k xs).1,x::(gd l k xs).2)
def dz(l:List Oper)(o:Oper):List Nat:=(match o.guard with
 |some (j,_)=>(match(l[j]?).bind (·.dst) with
  |some d=> [d]
  |none=> [])
 |none=> [])++opT (opsOf o.op)
def csX(tc:List (List Nat))(es:List Nat)(k:Nat):List Nat:=(List.range (es.length+1)).filter λc=>
 !(match es[c]? with
  |some y=>(tc.getD k []).contains y
  |none=>false)&& !((es.take c).any λy=>Nat.beq y k||(tc.getD y []).contains k)
def iI(l:List Oper)(tc:List (List Nat))(es:List Nat):Nat→List Oper→List (List Nat×List Nat×List Nat)
 |_,[]=> []
 |k,o::ol=>let p:=gd l k (dz l o);(p.1,p.2,csX tc es k)::iI l tc es (k+1) ol
def uW:Op→Bool
 | .call _=>true
 |_=>false
def okR(o:Oper)(rs:List AV)(k:Nat)(r:AV):Bool:=match o.dst with
 |some _=>(match rs[k]? with
  |some r'=>pP r r'
  |none=>false)
 |none=>true
section
variable{P:Program}[PC P]{t:Ty}{nt:Nat}{call:bH}{e:En}{l:List Oper}{rs:List AV}{base:Env}{es:List Nat}{L:List (List AO)}
theorem sA{ops:Array Oper}{env:Env}{st' stc:List AO}{o:Oper}{k:Nat}{r:AV}(hr:okR o rs k r=true)(hst:st'=stc):
  WL P e ops [] (l9 o r env) st' (λenv' st''=>st''=stc∧∃pre,env'=pre++env∧(∀t x,pre.get t=some x→o.dst=some t)∧∀d' r',o.dst=some d'→rs[k]? =some r'→pre.get d'=some r'):=by
 unfold okR at hr
 unfold l9
 split at hr
 ·rename_i d hd
  split at hr
  ·rename_i r' hr'
   obtain rfl:=jP hr
   rw[hd]
   have:=ib (P:=P) (e:=e) (ops:=ops) (env:=env) hd hr' hst
   rw[hd] at this
   exact this
  ·cases hr
 ·rename_i hd
  rw[hd]
  have:=du (P:=P) (e:=e) (rs:=rs) (ops:=ops) (env:=env) (k:=k) hd hst
  rw[hd] at this
  exact this
end
def cn(es:List Nat)(k:Nat):Nat:=(es.filter λy=>Nat.blt y k).length
def kW(P:Program)[PC P](t:Ty)(q:Bool)(call:bH)(l:List Oper)(base:Env):List Oper→Nat→List AV→List Nat→List (List AO)→List AO→Option (List AV×List Nat×List (List AO))
 |[],_,rs,es,L,_=>some (rs,es,L)
 |o::ol,k,rs,es,L,st=>bif (gd l k (dz l o)).1.all (λj=>Nat.blt j k) then
   dj (fM l rs base (gd l k (dz l o)).1 (gd l k (dz l o)).2) (λev=>match exP P t l.toArray ev st o with
   |some r=>dj (rs++ [r]) λrs'=>kW P t q call l base ol (k+1) rs' es L st
   |none=>(match pM P t call l.toArray ev st o with
    |some (r,st')=>bif q&&(uW o.op&&iM st' st) then dj (rs++ [r]) λrs'=>kW P t q call l base ol (k+1) rs' es L st
     else dj (rs++ [r]) λrs'=>dj (es++ [k]) λes'=>dj (L++ [st']) λL'=>kW P t q call l base ol (k+1) rs' es' L' st'
    |none=>none)) else none
def oK(P:Program)[PC P](t:Ty)(call:bH)(l:List Oper)(base:Env)(rs:List AV)(es:List Nat)(L:List (List AO))(j:Nat)(o:Oper):Prop:=
 ∃r,pM P t call l.toArray (fM l rs base (gd l j (dz l o)).1 (gd l j (dz l o)).2) (L.getD (cn es j) []) o=some (r,L.getD (bif es.contains j then cn es j+1 else cn es j) [])∧rs[j]? =some r
section
variable{P:Program}[PC P]{t:Ty}{call:bH}{l:List Oper}{base:Env}
theorem sy{rs rs':List AV}{tail:Env}:∀{pk:List Nat},(∀j∈pk,j<rs.length)→ekP l (rs++rs') tail pk=ekP l rs tail pk
 |[],_=>rfl
 |j::pk,h=>by
  have h1:eko l (rs++rs') j=eko l rs j:=by
   unfold eko
   rw[List.getElem?_append_left (h j List.mem_cons_self)]
  unfold ekP
  rw[h1,sy λj' hj=>h j' (List.mem_cons_of_mem _ hj)]
theorem pQ{rs rs':List AV}{pk bk:List Nat}(h:∀j∈pk,j<rs.length):fM l (rs++rs') base pk bk=fM l rs base pk bk:=sy h
theorem qa{es es':List Nat}{k:Nat}(h1:∀y∈es,y<k)(h2:∀y∈es',k≤y):cn (es++es') k=es.length:=by
 unfold cn
 rw[List.filter_append,List.filter_eq_self.2 (λy hy=>by simpa[Nat.blt_eq] using h1 y hy),List.filter_eq_nil_iff.2 (λy hy=>by have:=h2 y hy;simp[Nat.blt_eq];omega)]
 simp
theorem pH{α:Type}{L L':List α}{n:Nat}{d:α}(h:n<L.length):(L++L').getD n d=L.getD n d:=by
 rw[List.getD_eq_getElem?_getD,List.getD_eq_getElem?_getD,List.getElem?_append_left h]
theorem pL{ops:Array Oper}{env:Env}{st:List AO}{o:Oper}{r:AV}(h:exP P t ops env st o=some r):pM P t call ops env st o=some (r,st):=by
 unfold pM;rw[h]
theorem mc{q:Bool}:∀{ol:List Oper}{k:Nat}{rs:List AV}{es:List Nat}{L:List (List AO)}{st:List AO}{rsF:List AV}{esF:List Nat}{LF:List (List AO)},kW P t q call l base ol k rs es L st=some (rsF,esF,LF)→
  ol=l.drop k→rs.length=k→(∀y∈es,y<k)→L.length=es.length+1→L.getD es.length []=st→
  (∃rs',rsF=rs++rs'∧rs'.length=ol.length)∧(∃es',esF=es++es'∧∀y∈es',k≤y)∧(∃L',LF=L++L')∧LF.length=esF.length+1∧∀(j:Nat)(o:Oper),k≤j→l[j]? =some o→oK P t call l base rsF esF LF j o
 |[],k,rs,es,L,st,rsF,esF,LF,h,hol,hrs,hes,hL,hst=>by
  simp only[kW,am,Prod.mk.injEq] at h
  obtain⟨rfl,rfl,rfl⟩:=h
  refine⟨⟨[],sM,rfl⟩,⟨[],sM,λy hy=>by cases hy⟩,⟨[],sM⟩,hL,λj o hj ho=>?_⟩
  have:l.length≤k:=by
   have:=congrArg List.length hol
   rw[List.length_drop] at this
   simp at this
   omega
  have:=(giS.1 ho).1
  omega
 |o::ol,k,rs,es,L,st,rsF,esF,LF,h,hol,hrs,hes,hL,hst=>by
  unfold kW at h
  obtain⟨hpk,h⟩:=cz h
  simp only[db] at h
  have hpk':∀j∈(gd l k (dz l o)).1,j<rs.length:=λj hj=>by
   have:=List.all_eq_true.1 hpk j hj
   rw[hrs]
   simpa[Nat.blt_eq] using this
  have hok:l[k]? =some o:=by
   have:(l.drop k)[0]? =some o:=by rw[←hol];rfl
   simpa using this
  have hol':ol=l.drop (k+1):=by
   have:(o::ol).drop 1=(l.drop k).drop 1:=by rw[hol]
   rw[List.drop_drop] at this
   simpa[Nat.add_comm] using this
  have hes1:∀y∈es,y<k+1:=λy hy=>Nat.lt_succ_of_lt (hes y hy)
  -- a quiet operation
  have quiet:∀{r:AV},pM P t call l.toArray (fM l rs base (gd l k (dz l o)).1 (gd l k (dz l o)).2) st o=some (r,st)→kW P t q call l base ol (k+1) (rs++ [r]) es L st=some (rsF,esF,LF)→
    (∃rs',rsF=rs++rs'∧rs'.length=(o::ol).length)∧(∃es',esF=es++es'∧∀y∈es',k≤y)∧(∃L',LF=L++L')∧LF.length=esF.length+1∧∀(j:Nat)(o:Oper),k≤j→l[j]? =some o→oK P t call l base rsF esF LF j o:=λ{r} he hp=>by
   obtain⟨⟨rs',e1,e2⟩,⟨es',e3,e4⟩,⟨L',e5⟩,e6,e7⟩:=mc hp hol' (by simp[hrs]) hes1 hL hst
   refine⟨⟨r::rs',by rw[e1];simp,by simp[e2]⟩,⟨es',e3,λy hy=>Nat.le_of_succ_le (e4 y hy)⟩,⟨L',e5⟩,e6,λj o' hj ho'=>?_⟩
   rcases Nat.lt_or_ge k j with hj'|hj'
   ·exact e7 j o' hj' ho'
   ·have:j=k:=oM
    subst this
    rw[hok] at ho'
    obtain rfl:=inS ho'
    have hc:cn esF j=es.length:=by rw[e3];exact qa hes λy hy=>Nat.le_of_succ_le (e4 y hy)
    have hn:esF.contains j=false:=by
     rw[e3,List.contains_eq_mem,decide_eq_false_iff_not,List.mem_append]
     rintro(hm|hm)
     ·exact absurd (hes j hm) (Nat.lt_irrefl _)
     ·exact absurd (e4 j hm) oM
    refine⟨r,?_,by rw[e1,List.append_assoc,List.getElem?_append_right oM,hrs];simp⟩
    rw[hn,cdF,hc,e5,pH oM,hst,e1,List.append_assoc,pQ hpk']
    exact he
  split at h
  ·rename_i r hr
   exact quiet (pL hr) h
  ·split at h
   ·rename_i r st' hr
    cases hq:q&&(uW o.op&&iM st' st) with
    |true=>
     rw[hq,cdT] at h
     rw[Bool.and_eq_true,Bool.and_eq_true] at hq
     have:=hG hq.2.2
     subst this
     exact quiet hr h
    |false=>
     rw[hq,cdF] at h
     obtain⟨⟨rs',e1,e2⟩,⟨es',e3,e4⟩,⟨L',e5⟩,e6,e7⟩:=mc h hol' (by simp[hrs]) (λy hy=>by
      rcases List.mem_append.1 hy with hy|hy
      ·exact hes1 y hy
      ·rw[List.mem_singleton.1 hy];exact Nat.lt_succ_self k) (by simp[hL]) (by rw[List.length_append,List.getD_eq_getElem?_getD,List.getElem?_append_right (by simp;omega)];simp[hL])
     refine⟨⟨r::rs',by rw[e1];simp,by simp[e2]⟩,⟨k::es',by rw[e3];simp,λy hy=>?_⟩,⟨st'::L',by rw[e5];simp⟩,e6,λj o' hj ho'=>?_⟩
     ·rcases List.mem_cons.1 hy with rfl|hy
      ·exact Nat.le_refl _
      ·exact Nat.le_of_succ_le (e4 y hy)
     ·rcases Nat.lt_or_ge k j with hj'|hj'
      ·exact e7 j o' hj' ho'
      ·have:j=k:=oM
       subst this
       rw[hok] at ho'
       obtain rfl:=inS ho'
       have e3':esF=es++(j::es'):=by rw[e3];simp
       have e5':LF=L++(st'::L'):=by rw[e5];simp
       have hc:cn esF j=es.length:=by
        rw[e3']
        refine qa hes λy hy=>?_
        rcases List.mem_cons.1 hy with rfl|hy
        ·exact Nat.le_refl _
        ·exact Nat.le_of_succ_le (e4 y hy)
       have hn:esF.contains j=true:=by rw[e3',List.contains_eq_mem,decide_eq_true_eq];simp
       refine⟨r,?_,by rw[e1,List.append_assoc,List.getElem?_append_right oM,hrs];simp⟩
       rw[hn,cdT,hc,e1,List.append_assoc,pQ hpk']
       have h1:LF.getD es.length []=st:=by rw[e5',pH oM,hst]
       have h2:LF.getD (es.length+1) []=st':=by
        rw[e5',List.getD_eq_getElem?_getD,List.getElem?_append_right oM]
        simp[hL]
       rw[h1,h2]
       exact hr
   ·cases h
end
def Ao(nt:Nat)(o:Oper):Bool:=match o.dst with
 |some d=>Nat.ble (d+1) nt
 |none=>true
def Ar(P:Program)[PC P](t:Ty)(call:bH)(l:List Oper)(rs:List AV)(base:Env)(es:List Nat)(L:List (List AO))(k:Nat)(o:Oper)(p:List Nat×List Nat×List Nat)(c:Nat):Bool:=
 Nat.beq c (cn es k)||(!(es.contains k)&&(match exP P t l.toArray (fM l rs base p.1 p.2.1) (L.getD c []) o with
  |some r=>okR o rs k r
  |none=>(match pM P t call l.toArray (fM l rs base p.1 p.2.1) (L.getD c []) o with
   |some (r,st')=>okR o rs k r&&iM st' (L.getD c [])
   |none=>false)))
def wD(P:Program)[PC P](t:Ty)(nt:Nat)(call:bH)(l:List Oper)(rs:List AV)(base:Env)(es:List Nat)(L:List (List AO)):Nat→List Oper→List (List Nat×List Nat×List Nat)→Bool
 |k,o::ol,p::ps=>Ao nt o&&((p.2.2.all λc=>Ar P t call l rs base es L k o p c)&&wD P t nt call l rs base es L (k+1) ol ps)
 |_,_,_=>true
section
variable{P:Program}[PC P]{t:Ty}{nt:Nat}{call:bH}{e:En}{l:List Oper}{rs:List AV}{base:Env}{es:List Nat}{L:List (List AO)}
theorem nl{tc:List (List Nat)}:∀{ol:List Oper}{k j:Nat}{o:Oper},ol[j]? =some o→(iI l tc es k ol)[j]? =some ((gd l (k+j) (dz l o)).1,(gd l (k+j) (dz l o)).2,csX tc es (k+j))
 |o0::ol,k,0,o,h=>by
  obtain rfl:=inS h
  rfl
 |o0::ol,k,j+1,o,h=>by
  have:=nl (tc:=tc) (ol:=ol) (k:=k+1) (j:=j) (o:=o) (by simpa using h)
  rw[show k+(j+1)=k+1+j by omega]
  exact this
 |[],_,_,_,h=>by simp at h
theorem xF{ops:Array Oper}{env:Env}{st' stc:List AO}{o:Oper}{k:Nat}{r:AV}(hr:rs[k]? =some r)(hst:st'=stc):
  WL P e ops [] (l9 o r env) st' (λenv' st''=>st''=stc∧∃pre,env'=pre++env∧(∀t x,pre.get t=some x→o.dst=some t)∧∀d' r',o.dst=some d'→rs[k]? =some r'→pre.get d'=some r'):=by
 unfold l9
 split
 ·rename_i d hd
  have:=ib (P:=P) (e:=e) (ops:=ops) (env:=env) hd hr hst
  rw[hd] at this
  rw[hd]
  exact this
 ·rename_i hd
  have:=du (P:=P) (e:=e) (rs:=rs) (ops:=ops) (env:=env) (k:=k) hd hst
  rw[hd] at this
  rw[hd]
  exact this
theorem rN{sts:Nat→List AO}{k:Nat}{o:Oper}{pk bk:List Nat}{up:Bool}:∀{cs:List Nat},(∀c∈cs,Ob P e l rs base sts k o pk bk c (bif up then c+1 else c))→ObC P e l rs base sts k o pk bk up cs
 |[],_=>trivial
 |c::cs,h=>⟨h c List.mem_cons_self,rN λc' hc=>h c' (List.mem_cons_of_mem _ hc)⟩
theorem xM(ht:t.ok P=true)(hc:cC P call)(hn:e.n=nt){k c:Nat}{o:Oper}{p:List Nat×List Nat×List Nat}(hp:oK P t call l base rs es L k o)(hpp:p.1=(gd l k (dz l o)).1∧p.2.1=(gd l k (dz l o)).2)(h0:Ao nt o=true)
  (h:Ar P t call l rs base es L k o p c=true):Ob P e l rs base (λc=>L.getD c []) k o p.1 p.2.1 c (bif es.contains k then c+1 else c):=λF=>by
 have hd:∀d,o.dst=some d→Nat.ble (d+1) e.n=true:=λd hd=>by unfold Ao at h0;rw[hd] at h0;rw[hn];exact h0
 unfold Ar at h
 rw[Bool.or_eq_true] at h
 rcases h with h|h
 ·have:=nbE h
  subst this
  obtain⟨r,h1,h2⟩:=hp
  rw[hpp.1,hpp.2]
  exact so ht hc hd h1 (xF h2 rfl)
 ·rw[Bool.and_eq_true,Bool.not_eq_true'] at h
  rw[h.1,cdF]
  have h:=h.2
  split at h
  ·rename_i r hr
   exact vi ht hd hr (sA h rfl)
  ·split at h
   ·rename_i r st' hr
    rw[Bool.and_eq_true] at h
    exact so ht hc hd hr (sA h.1 (hG h.2))
   ·cases h
theorem rM(ht:t.ok P=true)(hc:cC P call)(hn:e.n=nt){tc:List (List Nat)}(hp:∀(j:Nat)(o:Oper),l[j]? =some o→oK P t call l base rs es L j o):∀{ol:List Oper}{ps:List (List Nat×List Nat×List Nat)}{k:Nat},ol=l.drop k→ps=(iI l tc es 0 l).drop k→wD P t nt call l rs base es L k ol ps=true→
  Obs P e l rs base (λc=>L.getD c []) es k ol ps
 |[],_,_,_,_,_=>trivial
 |_::_,[],_,_,_,_=>trivial
 |o::ol,p::ps,k,h1,h2,h=>by
  unfold wD at h
  rw[Bool.and_eq_true,Bool.and_eq_true] at h
  have ho:l[k]? =some o:=by
   have:(l.drop k)[0]? =some o:=by rw[←h1];rfl
   simpa using this
  have hpl:(iI l tc es 0 l)[k]? =some p:=by
   have:((iI l tc es 0 l).drop k)[0]? =some p:=by rw[←h2];rfl
   simpa using this
  have hpe:p=((gd l k (dz l o)).1,(gd l k (dz l o)).2,csX tc es k):=by
   have:=nl (l:=l) (tc:=tc) (es:=es) (k:=0) ho
   rw[Nat.zero_add,hpl] at this
   exact inS this
  have h1':ol=l.drop (k+1):=by
   have:(o::ol).drop 1=(l.drop k).drop 1:=by rw[h1]
   rw[List.drop_drop] at this
   simpa[Nat.add_comm] using this
  have h2':ps=(iI l tc es 0 l).drop (k+1):=by
   have:(p::ps).drop 1=((iI l tc es 0 l).drop k).drop 1:=by rw[h2]
   rw[List.drop_drop] at this
   simpa[Nat.add_comm] using this
  exact⟨rN λc hcm=>xM ht hc hn (hp k o ho) (by rw[hpe];exact⟨rfl,rfl⟩) h.1 (List.all_eq_true.1 h.2.1 c hcm),rM ht hc hn hp h1' h2' h.2.2⟩
end
def xz(P:Program)[PC P](t:Ty)(q:Bool)(nt:Nat)(call:bH)(l:List Oper)(base:Env)(st:List AO):Option (Env×List AO):=
 match kW P t q call l base l 0 [] [] [st] st with
 |some (rs,es,L)=>bif P.follows .mixedOrders&&(la l (tcF l) es (iI l (tcF l) es 0 l)&&(Nat.beq rs.length l.length&&(es.all (λy=>Nat.blt y l.length)&&(wD P t nt call l rs base es L 0 l (iI l (tcF l) es 0 l)&&bO l))))
   then dj (FL base (λk=>Nat.blt k l.length) (bX l rs 0)) (λev=>some (ev,L.getD es.length [])) else none
 |none=>none
theorem su{P:Program}[PC P]{t:Ty}{q:Bool}{nt:Nat}{call:bH}{e:En}(ht:t.ok P=true)(hc:cC P call)(hn:e.n=nt){l:List Oper}{base env':Env}{st st':List AO}{id:Nat}{κ:Ko}(h:xz P t q nt call l base st=some (env',st'))(k:WE P e .normal κ env' st'):WC P e (.region id l.toArray true) κ base st:=by
 unfold xz at h
 split at h
 ·rename_i rs es L hs
  obtain⟨hh,h⟩:=cz h
  rw[db] at h
  simp only[am,Prod.mk.injEq] at h
  obtain⟨rfl,rfl⟩:=h
  simp only[Bool.and_eq_true] at hh
  obtain⟨c1,c2,c3,c4,c5,c6⟩:=hh
  obtain⟨_,_,⟨L',h0⟩,_,hp⟩:=mc hs sM rfl (λy hy=>by cases hy) rfl rfl
  exact iD rs (tcF l) es (λc=>L.getD c []) (iI l (tcF l) es 0 l) c1 c2 c3 c4 (by show L.getD 0 []=st;rw[h0];rfl) (rM (tc:=tcF l) ht hc hn (λj o ho=>hp j o (Nat.zero_le _) ho) sM sM c5) k c6
 ·cases h
def exA(P:Program)[PC P](t:Ty)(nt:Nat)(call:bH)(l:List Oper)(base:Env)(st:List AO):Option (Env×List AO):=match xz P t false nt call l base st with
 |some r=>some r
 |none=>xz P t true nt call l base st
theorem vp{P:Program}[PC P]{t:Ty}{nt:Nat}{call:bH}{e:En}(ht:t.ok P=true)(hc:cC P call)(hn:e.n=nt){l:List Oper}{base env':Env}{st st':List AO}{id:Nat}{κ:Ko}(h:exA P t nt call l base st=some (env',st'))(k:WE P e .normal κ env' st'):WC P e (.region id l.toArray true) κ base st:=by
 unfold exA at h
 split at h
 ·rename_i hr
  obtain rfl:=inS h
  exact su ht hc hn hr k
 ·exact su ht hc hn h k
def oG(env:Env):List Nat→Option (List AV)
 |[]=>some []
 |t::l=>match env.get t,oG env l with
  |some x,some xs=>some (x::xs)
  |_,_=>none
theorem nF{env:Env}:∀{l:List Nat}{xs:List AV},oG env l=some xs→bU env (l.map .tmp)=some xs
 |[],xs,h=>by obtain rfl:=inS h;rfl
 |t::l,xs,h=>by
  unfold oG at h
  split at h
  ·rename_i h1 h2
   obtain rfl:=inS h
   show(match env.get t,bU env (l.map .tmp) with|some y,some ys=>some (y::ys)|_,_=>none)=_
   rw[h1,nF h2]
  ·cases h
def exC(P:Program)[PC P](t:Ty)(nt:Nat)(call:bH)(yld:kJ)(top:Bool)(hook:dH):Nat→Code→Env→List AO→Option (Exit×Env×List AO)
 |0,_,_,_=>none
 |n+1,c,env,st=>match c with
  | .skip=>some (.normal,env,st)
  | .ret=>some (.ret,env,st)
  | .exit i=>some (.exit i,env,st)
  | .seq x y=>(match exC P t nt call yld top hook n x env st with
   |some (.normal,env',st')=>exC P t nt call yld top hook n y env' st'
   |some (.ret,env',st')=>some (.ret,env',st')
   |some (.exit i,env',st')=>some (.exit i,env',st')
   |_=>none)
  | .block i x=>(match exC P t nt call yld top hook n x env st with
   |some (.normal,env',st')=>some (.normal,env',st')
   |some (.ret,env',st')=>some (.ret,env',st')
   |some (.exit j,env',st')=>bif Nat.beq j i then some (.normal,env',st') else some (.exit j,env',st')
   |_=>none)
  | .cond b x y=>(match(opv env b).bind qd with
   |some true=>exC P t nt call yld top hook n x env st
   |some false=>exC P t nt call yld top hook n y env st
   |none=>none)
  | .region _ a false=>bif bO a.toList then(match exL P t nt call yld hook a a.toList env st with
   |some (env',st')=>some (.normal,env',st')
   |none=>none) else none
  | .region _ a true=>(match exA P t nt call a.toList env st with
   |some (env',st')=>some (.normal,env',st')
   |none=>none)
  | .loop x=>(match exC P t nt call yld top hook n x env st with
   |some (.normal,env',st')=>exC P t nt call yld top hook n (.loop x) env' st'
   |some (.ret,env',st')=>some (.ret,env',st')
   |some (.exit i,env',st')=>some (.exit i,env',st')
   |_=>none)
  | .rangeFunc g ps asg body=>bif top then(match opv env g,oG env (env.map (·.1)) with
   |some (.fn (.func f) first caps),some vs=>(match call f (first++ .yl st.length::caps) (st++ [.lp ⟨nt,env.map (·.1),ps.toList,asg,body⟩ vs .ready none]) with
    |some (_,st')=>(match st'[st.length]? with
     |some (.lp _ _ .ready none)=>some (.normal,env,st'.set st.length .dead)
     |some (.lp _ _ .done (some .ret))=>some (.ret,env,st'.set st.length .dead)
     |some (.lp _ _ .done (some (.exit i)))=>some (.exit i,env,st'.set st.length .dead)
     |_=>none)
    |none=>none)
   |_,_=>none) else none
  |_=>none
section
variable{P:Program}[PC P]{t:Ty}{nt:Nat}{call:bH}{yld:kJ}{top:Bool}{hook:dH}{e:En}
theorem kF(ht:t.ok P=true)(hc:cC P call)(hyl:mI P yld)(htop:top=true→e.rd=none∧e.ds=none)(hh:fN hook)(hn:e.n=nt):∀(n:Nat),
  (∀(c:Code)(env env':Env)(st st':List AO)(x:Exit)(κ:Ko),exC P t nt call yld top hook n c env st=some (x,env',st')→WE P e x κ env' st'→WC P e c κ env st)∧
  (∀(c:Code)(env env':Env)(st st':List AO)(x:Exit)(κ:Ko),exC P t nt call yld top hook n (.loop c) env st=some (x,env',st')→WE P e x κ env' st'→∃m,n=m+1∧WC P e c (.rl m c κ) env st)
 |0=>⟨λ_ _ _ _ _ _ _ h=>(by cases h),λ_ _ _ _ _ _ _ h=>(by cases h)⟩
 |n+1=>by
  obtain⟨iA,iB⟩:=kF ht hc hyl htop hh hn n
  have hB:∀(c:Code)(env env':Env)(st st':List AO)(x:Exit)(κ:Ko),exC P t nt call yld top hook (n+1) (.loop c) env st=some (x,env',st')→WE P e x κ env' st'→∃m,n+1=m+1∧WC P e c (.rl m c κ) env st:=by
   intro c env env' st st' x κ h k
   refine⟨n,rfl,?_⟩
   dsimp only[exC] at h
   split at h
   ·rename_i hx
    obtain⟨m,hm,hw⟩:=iB _ _ _ _ _ _ _ h k
    subst hm
    exact iA _ _ _ _ _ _ _ hx (iC hw)
   ·rename_i hx
    simp only[am,Prod.mk.injEq] at h
    obtain⟨rfl,rfl,rfl⟩:=h
    exact iA _ _ _ _ _ _ _ hx (cO k)
   ·rename_i hx
    simp only[am,Prod.mk.injEq] at h
    obtain⟨rfl,rfl,rfl⟩:=h
    exact iA _ _ _ _ _ _ _ hx (iY k)
   ·cases h
  refine⟨?_,hB⟩
  intro c env env' st st' x κ h k
  cases c with
  |loop c=>
   obtain⟨m,_,hw⟩:=hB _ _ _ _ _ _ _ h k
   exact j9 m hw
  |skip=>
   dsimp only[exC] at h
   simp only[am,Prod.mk.injEq] at h
   obtain⟨rfl,rfl,rfl⟩:=h
   exact nO k
  |ret=>
   dsimp only[exC] at h
   simp only[am,Prod.mk.injEq] at h
   obtain⟨rfl,rfl,rfl⟩:=h
   exact qz k
  |exit i=>
   dsimp only[exC] at h
   simp only[am,Prod.mk.injEq] at h
   obtain⟨rfl,rfl,rfl⟩:=h
   exact nP k
  |seq a b=>
   dsimp only[exC] at h
   split at h
   ·rename_i hx
    exact lX (iA _ _ _ _ _ _ _ hx (nM (iA _ _ _ _ _ _ _ h k)))
   ·rename_i hx
    simp only[am,Prod.mk.injEq] at h
    obtain⟨rfl,rfl,rfl⟩:=h
    exact lX (iA _ _ _ _ _ _ _ hx (iX k))
   ·rename_i hx
    simp only[am,Prod.mk.injEq] at h
    obtain⟨rfl,rfl,rfl⟩:=h
    exact lX (iA _ _ _ _ _ _ _ hx (gB k))
   ·cases h
  |block i a=>
   dsimp only[exC] at h
   split at h
   ·rename_i hx
    simp only[am,Prod.mk.injEq] at h
    obtain⟨rfl,rfl,rfl⟩:=h
    exact fO (iA _ _ _ _ _ _ _ hx (qx k))
   ·rename_i hx
    simp only[am,Prod.mk.injEq] at h
    obtain⟨rfl,rfl,rfl⟩:=h
    exact fO (iA _ _ _ _ _ _ _ hx (iZ k))
   ·rename_i j _ _ hx
    cases hb:Nat.beq j i with
    |true=>
     rw[hb] at h
     simp only[cdT,am,Prod.mk.injEq] at h
     obtain⟨rfl,rfl,rfl⟩:=h
     have:=nbE hb
     subst this
     exact fO (iA _ _ _ _ _ _ _ hx (ja k))
    |false=>
     rw[hb] at h
     simp only[cdF,am,Prod.mk.injEq] at h
     obtain⟨rfl,rfl,rfl⟩:=h
     exact fO (iA _ _ _ _ _ _ _ hx (gD hb k))
   ·cases h
  |cond b x y=>
   dsimp only[exC] at h
   split at h
   ·rename_i hb
    obtain⟨z,h1,h2⟩:=bF hb
    rw[fS h2] at h1
    exact fq h1 (λ_=>iA _ _ _ _ _ _ _ h k) (λh=>by cases h)
   ·rename_i hb
    obtain⟨z,h1,h2⟩:=bF hb
    rw[fS h2] at h1
    exact fq h1 (λh=>by cases h) (λ_=>iA _ _ _ _ _ _ _ h k)
   ·cases h
  |region id a b=>
   cases b with
   |false=>
    dsimp only[exC] at h
    obtain⟨hd,h⟩:=cz h
    split at h
    ·rename_i hx
     simp only[am,Prod.mk.injEq] at h
     obtain⟨rfl,rfl,rfl⟩:=h
     exact kd (l:=a.toList) (q' ht hc hyl hh hn hx k) hd
    ·cases h
   |true=>
    dsimp only[exC] at h
    split at h
    ·rename_i hx
     simp only[am,Prod.mk.injEq] at h
     obtain⟨rfl,rfl,rfl⟩:=h
     exact vp (l:=a.toList) ht hc hn hx k
    ·cases h
  |rangeFunc g ps asg body=>
   dsimp only[exC] at h
   obtain⟨htp,h⟩:=cz h
   obtain⟨hrd,hds⟩:=htop htp
   split at h
   ·rename_i f first caps vs hg hvs
    split at h
    ·rename_i r1 st1 hx
     have hctr:=hc _ _ _ _ _ hx
     rw[←hn] at hctr
     refine m6 (env.map (·.1)) _ hrd hg (nF hvs) hctr (λr' s' hq=>?_) hds
     obtain⟨rfl,rfl⟩:=hq
     split at h
     ·rename_i hl
      simp only[am,Prod.mk.injEq] at h
      obtain⟨rfl,rfl,rfl⟩:=h
      exact⟨_,_,_,_,_,SLe.refl _,hl,sM,k⟩
     ·rename_i hl
      simp only[am,Prod.mk.injEq] at h
      obtain⟨rfl,rfl,rfl⟩:=h
      exact⟨_,_,_,_,_,SLe.refl _,hl,sM,k⟩
     ·rename_i hl
      simp only[am,Prod.mk.injEq] at h
      obtain⟨rfl,rfl,rfl⟩:=h
      exact⟨_,_,_,_,_,SLe.refl _,hl,sM,k⟩
     ·cases h
    ·cases h
   ·cases h
  |_=>cases h
end
def uB:kJ:=λ_ _ _=>none
theorem jG{P:Program}:mI P uB:=λ_ _ _ _ _ h=>by cases h
def wk(P:Program)[PC P](t:Ty)(call:bH)(hook:dH)(fuel:Nat):kJ:=λid asz st=>match st[id]? with
 |some (.lp s vs .ready _)=>bif Nat.beq asz.length s.ps.length&&(gP s.ps&&((s.ps.all λp=>Nat.blt p s.n)&&Nat.beq s.ts.length vs.length)) then
   (match exC P t s.n call uB false hook fuel s.asg (List.zip s.ps asz++List.zip s.ts vs) st with
   |some (.normal,env1,st1)=>(match st1[id]? with
    |some (.lp s1 vs1 .ready pd1)=>(match exC P t s.n call uB false hook fuel s.body env1 (st1.set id (.lp s1 vs1 .busy pd1)) with
     |some (.normal,_,st2)=>(match st2[id]? with
      |some (.lp s2 vs2 .busy _)=>some (.d (.v (.bool true)),st2.set id (.lp s2 vs2 .ready none))
      |_=>none)
     |some (.ret,_,st2)=>(match st2[id]? with
      |some (.lp s2 vs2 .busy _)=>some (.d (.v (.bool false)),st2.set id (.lp s2 vs2 .done (some .ret)))
      |_=>none)
     |some (.exit i,_,st2)=>(match st2[id]? with
      |some (.lp s2 vs2 .busy _)=>some (.d (.v (.bool false)),st2.set id (.lp s2 vs2 .done (some (.exit i))))
      |_=>none)
     |_=>none)
    |_=>none)
   |_=>none) else none
 |_=>none
theorem wj{P:Program}[PC P]{t:Ty}{call:bH}{hook:dH}{fuel:Nat}(ht:t.ok P=true)(hc:cC P call)(hh:fN hook):mI P (wk P t call hook fuel):=by
 intro id asz st r st' h e ops rest o env R c x d hop hx hf has hw ho hd k
 unfold wk at h
 split at h
 ·rename_i s vs pd hs
  obtain⟨hq,h⟩:=cz h
  simp only[Bool.and_eq_true] at hq
  obtain⟨q1,q2,q3,q4⟩:=hq
  refine nG (λr' s'=>r'=r∧s'=st') hop hx hf has hs q1 q2 q3 q4 (λe' hn' hrd' _=>?_) hw ho hd (λr' s' hq=>by obtain⟨rfl,rfl⟩:=hq;exact k)
  have hT:∀{b:Bool},(b=false)→b=true→e'.rd=none∧e'.ds=none:=λh1 h2=>by rw[h1] at h2;cases h2
  split at h
  ·rename_i env1 st1 hx1
   split at h
   ·rename_i s1 vs1 pd1 hs1
    refine(kF ht hc jG (hT rfl) hh hn' fuel).1 _ _ _ _ _ _ _ hx1 (gE hrd' hs1 ?_)
    split at h
    ·rename_i env2 st2 hx2
     split at h
     ·rename_i hs2
      simp only[am,Prod.mk.injEq] at h
      obtain⟨rfl,rfl⟩:=h
      exact(kF ht hc jG (hT rfl) hh hn' fuel).1 _ _ _ _ _ _ _ hx2 (eS hrd' hs2 ⟨rfl,rfl⟩)
     ·cases h
    ·rename_i env2 st2 hx2
     split at h
     ·rename_i hs2
      simp only[am,Prod.mk.injEq] at h
      obtain⟨rfl,rfl⟩:=h
      exact(kF ht hc jG (hT rfl) hh hn' fuel).1 _ _ _ _ _ _ _ hx2 (cT hrd' hs2 ⟨rfl,rfl⟩)
     ·cases h
    ·rename_i env2 st2 hx2
     split at h
     ·rename_i hs2
      simp only[am,Prod.mk.injEq] at h
      obtain⟨rfl,rfl⟩:=h
      exact(kF ht hc jG (hT rfl) hh hn' fuel).1 _ _ _ _ _ _ _ hx2 (nN hrd' hs2 ⟨rfl,rfl⟩)
     ·cases h
    ·cases h
   ·cases h
  ·cases h
 ·cases h
def rvX(P:Program)(env:Env)(st:List AO):ResultVar→Option AV
 | .tmp t=>env.get t
 | .cell p T=>match env.get p with
  |some (.pt id off)=>(match st[id]? with
   |some (.row _ cs)=>(match ba P T,bi P T with
    |some false,_=>cs[off]?
    |some true,some n=>bif Nat.ble (off+n) cs.length then some (.ag ((cs.drop off).take n)) else none
    |_,_=>none)
   |_=>none)
  |_=>none
def tl(P:Program)(env:Env)(st:List AO):List ResultVar→Option AV
 |[]=>some (.tu [])
 |[v]=>rvX P env st v
 |[v,u]=>match rvX P env st v,rvX P env st u with
  |some r,some s=>some (.tu [r,s])
  |_,_=>none
 |[v,u,z]=>match rvX P env st v,rvX P env st u,rvX P env st z with
  |some r,some s,some q=>some (.tu [r,s,q])
  |_,_,_=>none
 |_=>none
section
variable{P:Program}{env:Env}{st:List AO}
theorem kh{v:ResultVar}{r:AV}(h:rvX P env st v=some r):RV1 P env st v r:=by
 cases v with
 |tmp t=>exact bR h
 |cell p T=>
  dsimp only[rvX] at h
  split at h
  ·rename_i hp
   split at h
   ·rename_i hs
    split at h
    ·rename_i ha;exact lh hp hs ha h
    ·rename_i ha hn
     obtain⟨hb,h⟩:=cz h
     obtain rfl:=inS h
     exact dL hp hs ha hn hb
    ·cases h
   ·cases h
  ·cases h
theorem rH{fn:Func}{r:AV}(h:tl P env st fn.results.toList=some r):Res P fn env st r:=by
 have hl:∀L,fn.results.toList=L→fn.results=L.toArray:=λL hL=>by rw[←hL]
 unfold tl at h
 split at h
 ·rename_i hL
  obtain rfl:=inS h
  exact d3 (hl _ hL)
 ·rename_i hL
  exact rs1 (hl _ hL) (kh h)
 ·rename_i hL
  split at h
  ·rename_i h1 h2
   obtain rfl:=inS h
   exact rs2 (hl _ hL) (kh h1) (kh h2)
  ·cases h
 ·rename_i hL
  split at h
  ·rename_i h1 h2 h3
   obtain rfl:=inS h
   exact rs3 (hl _ hL) (kh h1) (kh h2) (kh h3)
  ·cases h
 ·cases h
end
def exFn(P:Program)[PC P](t:Ty)(call:bH)(hook:dH)(fuel:Nat)(fn:Func)(asz:List AV)(st:List AO):Option (AV×List AO):=
 match fn.body with
 |some c=>bif !(fn.name== "runtime.NumGoroutine")&&Nat.ble asz.length fn.ntmps then(match exC P t fn.ntmps call (wk P t call hook fuel) true hook fuel c (fE 0 asz) st with
  |some (.ret,env',st')=>(match tl P env' st' fn.results.toList with
   |some r=>some (r,st')
   |none=>none)
  |some (.normal,env',st')=>(match tl P env' st' fn.results.toList with
   |some r=>some (r,st')
   |none=>none)
  |_=>none) else none
 |none=>none
def bmax(a b:Nat):Nat:=bif Nat.ble a b then b else a
mutual
def AV.ids(n:Nat):AV→List Nat
 | .ag ps=>AV.idss n ps
 | .pt id _=>bif Nat.ble n id then[id] else[]
 | .sr id _ _ _=>bif Nat.ble n id then[id] else[]
 | .fn _ a b=>AV.idss n a++AV.idss n b
 | .mp id=>bif Nat.ble n id then[id] else[]
 | .tu l=>AV.idss n l
 | .os id _=>bif Nat.ble n id then[id] else[]
 | .pe id _ _=>bif Nat.ble n id then[id] else[]
 | .ow id _ _ _ _=>bif Nat.ble n id then[id] else[]
 | .ifc _ x=>x.ids n
 | .osf id _ _=>bif Nat.ble n id then[id] else[]
 | .pem id _ _ _=>bif Nat.ble n id then[id] else[]
 | .yl id=>bif Nat.ble n id then[id] else[]
 |_=> []
def AV.idss(n:Nat):List AV→List Nat
 |[]=> []
 |x::xs=>x.ids n++AV.idss n xs
end
def idq(n:Nat)(x:AV)(acc:List Nat):List Nat:=match x with
 | .d _=>acc
 | .os id _=>bif Nat.ble n id then id::acc else acc
 | .pt id _=>bif Nat.ble n id then id::acc else acc
 | .pe id _ _=>bif Nat.ble n id then id::acc else acc
 | .mp id=>bif Nat.ble n id then id::acc else acc
 |x=>x.ids n++acc
def xi(n:Nat):List AV→List Nat→List Nat
 |[],acc=>acc
 |x::l,acc=>xi n l (idq n x acc)
def yp(n:Nat):List (List AV)→List Nat→List Nat
 |[],acc=>acc
 |e::l,acc=>yp n l (xi n e acc)
def AO.ids(n:Nat):AO→List Nat
 | .row _ cs=>xi n cs []
 | .os _ _ _ es=>yp n es []
 | .mp es=>AV.idss n (es.map (·.2))
 | .mb _ xs _=>xi n xs []
 | .it src _ _ _=>src.ids n
 | .fam _ _ _ ess=>AV.idss n ess.flatten.flatten
 | .lp _ vs _ _=>AV.idss n vs
 |_=> []
def zR(n:Nat):List AO→List Nat
 |[]=> []
 |o::l=>o.ids n++zR n l
def ltq(n:Nat)(x:AV):Bool:=match x with
 | .d _=>true
 | .os id _=>Nat.ble (id+1) n
 | .pt id _=>Nat.ble (id+1) n
 | .pe id _ _=>Nat.ble (id+1) n
 | .mp id=>Nat.ble (id+1) n
 |x=>x.lt n
theorem zB{n:Nat}{x:AV}(h:ltq n x=true):x.lt n=true:=by
 unfold ltq at h
 split at h<;>first|exact h|(simp only[AV.lt];done)|(simp only[AV.lt];exact h)
def qT(n:Nat):List AV→Bool
 |[]=>true
 |x::l=>bif ltq n x then qT n l else false
theorem lq{n:Nat}:∀{l:List AV},qT n l=true→AV.lts n l=true
 |[],_=>rfl
 |x::l,h=>by
  unfold qT at h
  cases hb:ltq n x with
  |true=>rw[hb,cdT] at h;simp only[AV.lts,Bool.and_eq_true];exact⟨zB hb,lq h⟩
  |false=>rw[hb] at h;cases h
def rT(n:Nat):List (List AV)→Bool
 |[]=>true
 |e::l=>bif qT n e then rT n l else false
theorem pB{n:Nat}:∀{l:List (List AV)},rT n l=true→AV.lts n l.flatten=true
 |[],_=>rfl
 |e::l,h=>by
  unfold rT at h
  cases hb:qT n e with
  |true=>rw[hb,cdT] at h;rw[List.flatten_cons,xd,lq hb,pB h];rfl
  |false=>rw[hb] at h;cases h
def wH(n:Nat)(o:AO):Bool:=match o with
 | .row _ cs=>qT n cs
 | .os _ _ _ es=>rT n es
 | .mb _ xs _=>qT n xs
 |o=>o.lt n
theorem wG{n:Nat}{o:AO}(h:wH n o=true):o.lt n=true:=by
 unfold wH at h
 split at h
 ·exact lq h
 ·exact pB h
 ·exact lq h
 ·exact h
def rD(n:Nat):List AO→Bool
 |[]=>true
 |o::l=>bif wH n o then rD n l else false
theorem pf{n:Nat}:∀{l:List AO},rD n l=true→eT n l=true
 |[],_=>rfl
 |o::l,h=>by
  unfold rD at h
  cases hb:wH n o with
  |true=>rw[hb,cdT] at h;simp only[eT,Bool.and_eq_true];exact⟨wG hb,pf h⟩
  |false=>rw[hb] at h;cases h
def nR(n:Nat)(r:AV)(st:List AO):Bool:=r.lt n&&rD n st
def n6(n:Nat)(st:List AO):Nat→List Nat→List Nat→List Nat
 |0,_,seen=>seen
 |_+1,[],seen=>seen
 |k+1,x::todo,seen=>bif seen.contains x then n6 n st k todo seen else n6 n st k ((match st[x]? with
  |some o=>o.ids n
  |none=> [])++todo) (x::seen)
def tV(ks:List Nat):Nat→Nat→List AO→List AO
 |_,_,[]=> []
 |n,i,o::l=>(bif Nat.blt i n||ks.contains i then o else .dead)::tV ks n (i+1) l
theorem rq{ks:List Nat}{n:Nat}:∀{l:List AO}{i:Nat},SLe l (tV ks n i l)
 |[],_=>trivial
 |o::l,i=>by
  refine⟨?_,rq⟩
  cases (Nat.blt i n||ks.contains i) with
  |true=>exact OLe.refl o
  |false=>exact trivial
def pz:Nat→List Nat→Nat
 |m,[]=>m
 |m,x::l=>pz (bmax m (x+1)) l
def yg(n0:Nat)(ks:List Nat)(r:AV)(st:List AO):List AO:=bif Nat.ble n0 (pz n0 ks)&&nR (pz n0 ks) r (tV ks n0 0 (st.take (pz n0 ks))) then tV ks n0 0 (st.take (pz n0 ks)) else st
def m9(n0:Nat)(r:AV)(st:List AO):List AO:=
 bif Nat.ble st.length n0 then st else yg n0 (n6 n0 st 1000 (r.ids n0++zR n0 (st.take n0)) []) r st
theorem wt{m m':List Cz}{φ φ':Nat→Nat}{w w':World}{st st':List AO}{r:AV}{v:Value}{n:Nat}(hl:m.length=st.length)(hev:Ev m φ w m' φ' w')(hsr:SR m' φ' st' w')(hra:RA m' φ' w' r v)(hn:st.length≤n){st1:List AO}(hz:SLe (st'.take n) st1)(ht:nR n r st1=true):
  ∃m'',Ev m φ w m'' φ' w'∧SR m'' φ' st1 w'∧RA m'' φ' w' r v:=by
 unfold nR at ht
 rw[Bool.and_eq_true] at ht
 have hlen:=hz.length
 have hst1:=pf ht.2
 refine⟨m'.take n,⟨λi c hi=>?_,λb ⟨i,c,h1,h2⟩=>hev.new b ⟨i,c,(bg h1).2,h2⟩,hev.os,hev.tape,hev.output,hev.size,hev.keep,hev.fz⟩,⟨by rw[hlen];simp[hsr.len],λi o c h1 h2=>?_,hsr.lt,λi j o o' c c' b h1 h2 l1 l2 h3 h4=>?_,hsr.gl,λb ⟨i,c,h1,h2⟩=>hsr.nb b ⟨i,c,(bg h1).2,h2⟩⟩,RA.take _ _ ht.1 hra⟩
 ·obtain⟨c',h1,h2⟩:=hev.pre i c hi
  have:i<m.length:=(giS.1 hi).1
  rw[hl] at this
  exact⟨c',cV (Nat.ble_eq_true_of_le (show i+1≤n by omega)) h1,h2⟩
 ·obtain⟨o0,g1,g2⟩:=hz.get h1
  exact((hsr.obj i o0 c (bg g1).2 (bg h2).2).weak g2).take (gH hst1 h1)
 ·obtain⟨o0,g1,g2⟩:=hz.get h1
  obtain⟨o1,g3,g4⟩:=hz.get h2
  exact hsr.inj i j o0 o1 c c' b (bg g1).2 (bg g3).2 (g2.live l1) (g4.live l2) (bg h3).2 (bg h4).2
theorem uj{m m':List Cz}{φ φ':Nat→Nat}{w w':World}{st st':List AO}{r:AV}{v:Value}(hl:m.length=st.length)(hev:Ev m φ w m' φ' w')(hsr:SR m' φ' st' w')(hra:RA m' φ' w' r v):
  ∃m'',Ev m φ w m'' φ' w'∧SR m'' φ' (m9 st.length r st') w'∧RA m'' φ' w' r v:=by
 unfold m9
 cases Nat.ble st'.length st.length with
 |true=>exact⟨m',hev,hsr,hra⟩
 |false=>
  rw[cdF]
  generalize n6 st.length st' 1000 (r.ids st.length++zR st.length (st'.take st.length)) []=ks
  unfold yg
  cases h2:(Nat.ble st.length (pz st.length ks)&&nR (pz st.length ks) r (tV ks st.length 0 (st'.take (pz st.length ks)))) with
  |true=>
   rw[Bool.and_eq_true] at h2
   exact wt hl hev hsr hra (nbT h2.1) rq h2.2
  |false=>exact⟨m',hev,hsr,hra⟩
theorem tL{P:Program}{f:FuncId}{asz:List AV}{st:List AO}{Q:AV→List AO→Prop}(h:Ctr P f asz st Q):Ctr P f asz st (λr s=>∃s0,Q r s0∧s=m9 st.length r s0):=by
 refine⟨h.1,λm φ w vs hs ha=>(h.2 m φ w vs hs ha).mono ?_⟩
 rintro en w' ⟨v,r',s',m',φ',he,hq,hev,hsr,hra⟩
 obtain⟨m'',k1,k2,k3⟩:=uj (r:=r') hs.len hev hsr hra
 exact⟨v,r',_,m'',φ',he,⟨s',hq,rfl⟩,k1,k2,k3⟩
def exF(P:Program)[PC P](t:Ty)(fT:FuncId→Option Func)(kn:bH)(hook:dH)(fuel:Nat):Nat→bH
 |0=>λ_ _ _=>none
 |n+1=>λf asz st=>match kn f asz st with
  |some r=>some r
  |none=>(match fT f with
   |some fn=>(match exFn P t (exF P t fT kn hook fuel n) hook fuel fn asz st with
    |some (r,st')=>some (r,m9 st.length r st')
    |none=>none)
   |none=>none)
section
variable{P:Program}[PC P]{t:Ty}
end
mutual
def fzA(id ver:Nat)(y:AV):AV→AV
 | .os i v=>bif Nat.beq i id&&Nat.beq v ver then y else .os i v
 | .ag ps=> .ag (fzAs id ver y ps)
 | .tu ps=> .tu (fzAs id ver y ps)
 | .fn f a b=> .fn f (fzAs id ver y a) (fzAs id ver y b)
 | .ifc t x=> .ifc t (fzA id ver y x)
 |x=>x
def fzAs(id ver:Nat)(y:AV):List AV→List AV
 |[]=> []
 |x::l=>fzA id ver y x::fzAs id ver y l
end
section
variable{m:List Cz}{φ:Nat→Nat}{w:World}{id ver:Nat}{y:AV}{yv:Value}(hm:m[id]? =some (.tok ver yv))(hy:RA m φ w y yv)
include hm hy
mutual
theorem vZ:∀(x:AV)(v:Value),RA m φ w x v→RA m φ w (fzA id ver y x) v
 | .os i u,v,h=>by
  rw[fzA]
  cases hb:Nat.beq i id&&Nat.beq u ver with
  |false=>exact h
  |true=>
   rw[Bool.and_eq_true] at hb
   have e1:=nbE hb.1
   have e2:=nbE hb.2
   subst e1 e2
   simp only[RA] at h
   obtain⟨v0,y0,h1,_,h3⟩:=h
   rw[hm] at h1
   simp only[am,Cz.tok.injEq] at h1
   obtain⟨rfl,rfl⟩:=h1
   rw[h3 rfl]
   exact hy
 | .ag ps,v,h=>by
  rw[fzA]
  simp only[RA] at h⊢
  obtain⟨cs,h1,h2⟩:=h
  exact⟨cs,h1,RAs_fz ps cs h2⟩
 | .tu ps,v,h=>by
  rw[fzA]
  simp only[RA] at h⊢
  obtain⟨cs,h1,h2⟩:=h
  exact⟨cs,h1,RAs_fz ps cs h2⟩
 | .fn f a b,v,h=>by
  rw[fzA]
  simp only[RA] at h⊢
  obtain⟨fs,cs,h1,h2,h3⟩:=h
  exact⟨fs,cs,h1,RAs_fz a fs h2,RAs_fz b cs h3⟩
 | .ifc t x,v,h=>by
  rw[fzA]
  simp only[RA] at h⊢
  obtain⟨z,h1,h2⟩:=h
  exact⟨z,h1,vZ x z h2⟩
 | .u,v,h=>h
 | .d _,v,h=>h
 | .pt _ _,v,h=>h
 | .sr _ _ _ _,v,h=>h
 | .mp _,v,h=>h
 | .pe _ _ _,v,h=>h
 | .ow _ _ _ _ _,v,h=>h
 | .fs _,v,h=>h
 | .osf _ _ _,v,h=>h
 | .pem _ _ _ _,v,h=>h
 | .yl _,v,h=>h
theorem RAs_fz:∀(xs:List AV)(vs:List Value),RAs m φ w xs vs→RAs m φ w (fzAs id ver y xs) vs
 |[],vs,h=>h
 |x::xs,vs,h=>by
  rw[fzAs]
  simp only[RAs] at h⊢
  obtain⟨c,cs,h1,h2,h3⟩:=h
  exact⟨c,cs,h1,vZ x c h2,RAs_fz xs cs h3⟩
end
end
theorem gY(id ver:Nat)(y:AV):∀xs:List AV,fzAs id ver y xs=xs.map (fzA id ver y)
 |[]=>rfl
 |x::xs=>by rw[fzAs,gY id ver y xs,List.map_cons]
def fzO(id ver:Nat)(y:AV):AO→AO
 | .row T cs=> .row T (fzAs id ver y cs)
 | .os T k v es=> .os T k v (es.map (fzAs id ver y))
 |o=>o
theorem sk(id ver:Nat)(y:AV):∀es:List (List AV),(es.map (fzAs id ver y)).flatten=fzAs id ver y es.flatten
 |[]=>rfl
 |e::es=>by
  rw[List.map_cons,List.flatten_cons,List.flatten_cons,sk id ver y es,gY,gY,gY,List.map_append]
theorem OR_fz{m:List Cz}{φ:Nat→Nat}{w:World}{id ver:Nat}{y:AV}{yv:Value}(hm:m[id]? =some (.tok ver yv))(hy:RA m φ w y yv){o:AO}{c:Cz}(h:OR m φ w o c):OR m φ w (fzO id ver y o) c:=by
 cases o with
 |row T cs=>
  simp only[fzO,OR] at h⊢
  obtain⟨b,h1,h2,vs,h3,h4⟩:=h
  exact⟨b,h1,h2,vs,h3,RAs_fz hm hy _ _ h4⟩
 |os T k v es=>
  simp only[fzO,OR] at h⊢
  obtain⟨z,xs,h1,h2,h3,h4,h5⟩:=h
  refine⟨z,xs,h1,by rw[List.length_map];exact h2,by rw[sk];exact RAs_fz hm hy _ _ h3,λe he=>?_,h5⟩
  obtain⟨e',he',rfl⟩:=List.mem_map.1 he
  rw[gY,List.length_map]
  exact h4 e' he'
 |_=>exact h
theorem u6(id ver:Nat)(y:AV)(o:AO):(fzO id ver y o).live=o.live:=by cases o<;>rfl
theorem SR_fz{m:List Cz}{φ:Nat→Nat}{w:World}{st:List AO}{id ver:Nat}{y:AV}{yv:Value}(hm:m[id]? =some (.tok ver yv))(hy:RA m φ w y yv)(h:SR m φ st w):SR m φ (st.map (fzO id ver y)) w:=by
 refine⟨by rw[List.length_map];exact h.len,λi o c ho hc=>?_,h.lt,λi j o o' c c' b ho ho' hl hl' hc hc' hb hb'=>?_,h.gl,h.nb⟩
 ·rw[List.getElem?_map,Option.map_eq_some_iff] at ho
  obtain⟨o0,h0,rfl⟩:=ho
  exact OR_fz hm hy (h.obj i o0 c h0 hc)
 ·rw[List.getElem?_map,Option.map_eq_some_iff] at ho ho'
  obtain⟨o0,h0,rfl⟩:=ho
  obtain⟨o1,h1,rfl⟩:=ho'
  rw[u6] at hl hl'
  exact h.inj i j o0 o1 c c' b h0 h1 hl hl' hc hc' hb hb'
def fzE(id ver:Nat)(y:AV)(env:Env):Env:=env.map λp=>(p.1,fzA id ver y p.2)
theorem sm{id ver:Nat}{y:AV}:∀{env:Env}{t:Nat}{x:AV},(fzE id ver y env).get t=some x→∃x0,env.get t=some x0∧x=fzA id ver y x0
 |[],t,x,h=>by cases h
 |(k,v)::env,t,x,h=>by
  have h:(bif Nat.beq t k then some (fzA id ver y v) else Env.get (fzE id ver y env) t)=some x:=h
  show∃x0,(bif Nat.beq t k then some v else Env.get env t)=some x0∧_
  cases hb:Nat.beq t k with
  |true=>rw[hb] at h;exact⟨v,rfl,(inS h).symm⟩
  |false=>rw[hb] at h;exact sm h
theorem gh_fz{e:En}{env:Env}{st:List AO}{id ver T k:Nat}{ds:List (List D)}(hs:st[id]? =some (.os T k ver (ds.map λe=>e.map AV.d))):
  Gh e env st (fzE id ver (.d (.sl ds)) env) ((st.set id .dead).map (fzO id ver (.d (.sl ds)))):=λm φ a w hi=>by
 obtain⟨c,hcm⟩:∃c,m[id]? =some c:=by
  have:id<m.length:=by rw[hi.sr.len];exact(giS.1 hs).1
  exact⟨_,geG this⟩
 obtain⟨yv,xs,rfl,_⟩:=hi.sr.obj id _ _ hs hcm
 obtain⟨φ',f1,f2,f3⟩:=kB hi.sr hs hcm
 have h3:=hi.go f1 f2
 have hy:RA m φ' w (.d (.sl ds)) yv:=by simpa[RA] using f3
 refine⟨m,φ',SR_fz hcm hy h3.sr,h3.ev,⟨λt x hx=>?_,h3.env.gl⟩,h3.sz,h3.df⟩
 obtain⟨x0,g1,rfl⟩:=sm hx
 obtain⟨v,q1,q2⟩:=h3.env.get t x0 g1
 exact⟨v,q1,vZ hcm hy _ _ q2⟩
def unD:AV→Option D
 | .d (.v (.slice none 0 0))=>some (.sl [])
 | .d x=>some x
 |_=>none
def ws:List AV→Option (List D)
 |[]=>some []
 |x::l=>match unD x,ws l with
  |some d,some ds=>some (d::ds)
  |_,_=>none
def rB:List (List AV)→Option (List (List D))
 |[]=>some []
 |x::l=>match ws x,rB l with
  |some d,some ds=>some (d::ds)
  |_,_=>none
theorem yW{x:AV}{d:D}(h:unD x=some d):Le x (.d d):=by
 unfold unD at h
 split at h
 ·obtain rfl:=inS h;exact Le.nil
 ·obtain rfl:=inS h;exact Le.refl _
 ·cases h
theorem rC:∀{xs:List AV}{ds:List D},ws xs=some ds→Les xs (ds.map .d)
 |[],ds,h=>by obtain rfl:=inS h;exact Les.refl _
 |x::xs,ds,h=>by
  unfold ws at h
  split at h
  ·rename_i h1 h2
   obtain rfl:=inS h
   exact⟨yW h1,rC h2⟩
  ·cases h
theorem o9:∀{es:List (List AV)}{ds:List (List D)},rB es=some ds→Les es.flatten (ds.map λe=>e.map AV.d).flatten∧es.length=ds.length∧∀k,(∀e∈es,e.length=k)→∀e∈ds.map λe=>e.map AV.d,e.length=k
 |[],ds,h=>by obtain rfl:=inS h;exact⟨Les.refl _,rfl,λk _ e he=>by cases he⟩
 |x::es,ds,h=>by
  unfold rB at h
  split at h
  ·rename_i d ds' h1 h2
   obtain rfl:=inS h
   obtain⟨q1,q2,q3⟩:=o9 h2
   have hx:=rC h1
   refine⟨by rw[List.flatten_cons,List.map_cons,List.flatten_cons];exact Les.app hx q1,by simp[q2],λk hk e he=>?_⟩
   rw[List.map_cons] at he
   rcases List.mem_cons.1 he with rfl|he
   ·have:=Les.len hx
    rw[←this];exact hk x List.mem_cons_self
   ·exact q3 k (λe he=>hk e (List.mem_cons_of_mem _ he)) e he
  ·cases h
theorem tB{e:En}{env:Env}{st:List AO}{id ver T k:Nat}{es es':List (List AV)}(hs:st[id]? =some (.os T k ver es))(h:Les es.flatten es'.flatten)(hl:es.length=es'.length)(hk:∀k,(∀e∈es,e.length=k)→∀e∈es',e.length=k):
  Gh e env st env (st.set id (.os T k ver es')):=λm φ a w hi=>by
 refine⟨m,φ,⟨⟨by rw[List.length_set];exact hi.sr.len,λi o c ho hc=>?_,hi.sr.lt,λi j o o' c c' b ho ho' hl1 hl2 hc hc' hb hb'=>?_,hi.sr.gl,hi.sr.nb⟩,hi.ev,hi.env,hi.sz,hi.df⟩⟩
 ·by_cases hid:id=i
  ·subst hid
   rw[List.getElem?_set_self (giS.1 hs).1] at ho
   obtain rfl:=inS ho
   have h0:=hi.sr.obj id _ c hs hc
   simp only[OR] at h0⊢
   obtain⟨z,xs,h1,h2,h3,h4,h5⟩:=h0
   exact⟨z,xs,h1,by rw[←hl];exact h2,h.ras h3,hk _ h4,h5⟩
  ·rw[List.getElem?_set_ne hid] at ho
   exact hi.sr.obj i o c ho hc
 ·have key:∀(i:Nat)(o:AO),(st.set id (.os T k ver es'))[i]? =some o→o.live=true→∃o0:AO,st[i]? =some o0∧o0.live=true:=λi o ho hl=>by
   by_cases hid:id=i
   ·subst hid;exact⟨_,hs,rfl⟩
   ·rw[List.getElem?_set_ne hid] at ho;exact⟨o,ho,hl⟩
  obtain⟨o0,g0,l0⟩:=key i o ho hl1
  obtain⟨o1,g1,l1⟩:=key j o' ho' hl2
  exact hi.sr.inj i j o0 o1 c c' b g0 g1 l0 l1 hc hc' hb hb'
theorem Gh.trans{e:En}{env env' env'':Env}{st st' st'':List AO}(h:Gh e env st env' st')(k:Gh e env' st' env'' st''):Gh e env st env'' st'':=λm φ a w hi=>by
 obtain⟨m',φ',h1⟩:=h m φ a w hi
 exact k m' φ' a w h1
theorem Gh.refl{e:En}{env:Env}{st:List AO}:Gh e env st env st:=λm φ _ _ hi=>⟨m,φ,hi⟩
def zY(id:Nat)(env:Env)(st:List AO):Option (Env×List AO):=match st[id]? with
 |some (.os _ _ ver es)=>(match rB es with
  |some ds=>some (fzE id ver (.d (.sl ds)) env,(st.set id .dead).map (fzO id ver (.d (.sl ds))))
  |none=>none)
 |_=>none
theorem xq{e:En}{id:Nat}{env env':Env}{st st':List AO}(h:zY id env st=some (env',st')):Gh e env st env' st':=by
 unfold zY at h
 split at h
 ·rename_i T k ver es hs
  split at h
  ·rename_i ds hd
   simp only[am,Prod.mk.injEq] at h
   obtain⟨rfl,rfl⟩:=h
   obtain⟨q1,q2,q3⟩:=o9 hd
   refine(tB hs q1 (by rw[List.length_map];exact q2) q3).trans ?_
   have hlt:=(giS.1 hs).1
   have:=gh_fz (e:=e) (env:=env) (st:=st.set id (.os T k ver (ds.map λe=>e.map AV.d))) (id:=id) (ds:=ds) (List.getElem?_set_self hlt)
   rw[List.set_set] at this
   exact this
  ·cases h
 ·cases h
mutual
def zS(st:List AO):Nat→AV→List Nat
 |0,_=> []
 |n+1,x=>match x with
  | .os id _=>(match st[id]? with
   |some (.os _ _ _ es)=>idsL st n es.flatten++ [id]
   |_=> [])
  | .ag ps=>idsL st n ps
  | .tu ps=>idsL st n ps
  | .fn _ a b=>idsL st n a++idsL st n b
  | .ifc _ y=>zS st n y
  |_=> []
def idsL(st:List AO):Nat→List AV→List Nat
 |0,_=> []
 |_,[]=> []
 |n+1,x::l=>zS st n x++idsL st n l
end
def q9:List Nat→Env→List AO→Option (Env×List AO)
 |[],env,st=>some (env,st)
 |id::l,env,st=>match st[id]? with
  |some .dead=>q9 l env st
  |_=>(match zY id env st with
   |some (env',st')=>q9 l env' st'
   |none=>none)
theorem lu{e:En}:∀{l:List Nat}{env env':Env}{st st':List AO},q9 l env st=some (env',st')→Gh e env st env' st'
 |[],env,env',st,st',h=>by
  simp only[q9,am,Prod.mk.injEq] at h
  obtain⟨rfl,rfl⟩:=h
  exact Gh.refl
 |id::l,env,env',st,st',h=>by
  unfold q9 at h
  split at h
  ·exact lu h
  ·split at h
   ·rename_i h1
    exact(xq h1).trans (lu h)
   ·cases h
mutual
def leX:Nat→AV→D→Bool
 |0,_,_=>false
 |n+1,x,d=>match x with
  | .ag xs=>(match d with
   | .ag ds=>leXs n xs ds
   |_=>false)
  | .d (.ag ps)=>(match d with
   | .ag ds=>leXs n (ps.map .d) ds
   |_=>false)
  | .d (.v (.slice none 0 0))=>(match d with
   | .sl []=>true
   | .v (.slice none 0 0)=>true
   |_=>false)
  | .d a=>eqD a d
  |_=>false
def leXs:Nat→List AV→List D→Bool
 |0,_,_=>false
 |_,[],[]=>true
 |n+1,x::xs,d::ds=>leX n x d&&leXs n xs ds
 |_,_,_=>false
end
mutual
theorem zE:∀{n:Nat}{x:AV}{d:D},leX n x d=true→Le x (.d d)
 |0,x,d,h=>by simp[leX] at h
 |n+1,x,d,h=>by
  unfold leX at h
  split at h
  ·split at h
   ·exact bc (leXs_ok h)
   ·cases h
  ·split at h
   ·exact(AB _).trans (bc (leXs_ok h))
   ·cases h
  ·split at h
   ·exact Le.nil
   ·exact Le.refl _
   ·cases h
  ·rw[re h];exact Le.refl _
  ·cases h
theorem leXs_ok:∀{n:Nat}{xs:List AV}{ds:List D},leXs n xs ds=true→Les xs (ds.map .d)
 |0,xs,ds,h=>by simp[leXs] at h
 |n+1,xs,ds,h=>by
  unfold leXs at h
  split at h
  ·rename_i h0;cases h0
  ·exact Les.refl _
  ·rename_i h0
   cases h0
   rw[Bool.and_eq_true] at h
   exact⟨zE h.1,leXs_ok h.2⟩
  ·cases h
end
theorem zj{P:Program}{f:FuncId}{asz:List AV}{st:List AO}{ds:List D}{y:D}(h:Pu P f ds y)(hl:Les asz (ds.map .d)):Ctr P f asz st (λr' s'=>r'= .d y∧s'=st):=by
 refine⟨h.1,λm φ w vs hs ha=>(kq h hs ha hl).mono ?_⟩
 rintro en w' ⟨v,φ',rfl,hev,hsr,hra,_⟩
 exact⟨v, .d y,st,m,φ',rfl,⟨rfl,rfl⟩,hev,hsr,by simpa[RA] using hra⟩
def knX:List (FuncId×List D×D)→bH
 |[],_,_,_=>none
 |(g,ds,y)::tab,f,asz,st=>bif Nat.beq g f&&leXs 100 asz ds then some (.d y,st) else knX tab f asz st
theorem uS{P:Program}:∀{tab:List (FuncId×List D×D)},(∀p∈tab,Pu P p.1 p.2.1 p.2.2)→cC P (knX tab)
 |[],_,f,asz,st,r,st',h=>by cases h
 |(g,ds,y)::tab,ht,f,asz,st,r,st',h=>by
  unfold knX at h
  cases hb:Nat.beq g f&&leXs 100 asz ds with
  |false=>rw[hb] at h;exact uS (λp hp=>ht p (List.mem_cons_of_mem _ hp)) f asz st r st' h
  |true=>
   rw[hb] at h
   simp only[cdT,am,Prod.mk.injEq] at h
   obtain⟨rfl,rfl⟩:=h
   rw[Bool.and_eq_true] at hb
   have e:=nbE hb.1
   subst e
   exact zj (ht _ List.mem_cons_self) (leXs_ok hb.2)
def unN:D→D
 | .v (.slice none 0 0)=> .sl []
 |x=>x
theorem yV{φ:Nat→Nat}{w:World}{x:D}{v:Value}(h:RD φ w x v):RD φ w (unN x) v:=by
 unfold unN
 split
 ·have:=Le.nil [] φ w v (by simpa[RA] using h)
  simpa[RA] using this
 ·exact h
def dD(f:AV→Option D):List AV→Option (List D)
 |[]=>some []
 |x::l=>match f x,dD f l with|some d,some ds=>some (d::ds)|_,_=>none
def kg(f:AV→Option D):List (List AV)→Option (List (List D))
 |[]=>some []
 |x::l=>match dD f x,kg f l with|some d,some ds=>some (d::ds)|_,_=>none
def jb(st:List AO):Nat→AV→Option D
 |0,_=>none
 |n+1,x=>match x with
  | .d x=>some (unN x)
  | .ag ps=>(dD (jb st n) ps).map .ag
  | .os id ver=>match st[id]? with
   |some (.os _ _ ver' es)=>bif Nat.beq ver ver' then(kg (jb st n) es).map .sl else none
   |_=>none
  | .ow id ver off len lo=>match st[id]? with
   |some (.os _ k ver' es)=>bif Nat.beq ver ver'&&(Nat.beq off (lo*k)&&Nat.ble (lo+len) es.length) then(kg (jb st n) ((es.drop lo).take len)).map .sl else none
   |_=>none
  |_=>none
theorem gG{m φ w}{φ':Nat→Nat}{f:AV→Option D}(hf:∀x v d,RA m φ w x v→f x=some d→RD φ' w d v):∀{xs:List AV}{vs:List Value}{ds:List D},RAs m φ w xs vs→dD f xs=some ds→RFs φ' w ds vs
 |[],vs,ds,h,hv=>by
  simp only[dD,am] at hv
  subst hv
  simpa[RAs,RFs] using h
 |x::xs,vs,ds,h,hv=>by
  simp only[RAs] at h
  obtain⟨c,cs,rfl,h1,h2⟩:=h
  simp only[dD] at hv
  split at hv
  ·rename_i d ds' e1 e2
   simp only[am] at hv
   subst hv
   simp only[RFs]
   exact⟨c,cs,rfl,hf _ _ _ h1 e1,gG hf h2 e2⟩
  ·cases hv
theorem m7{f:AV→Option D}:∀{xs:List AV}{ds:List D},dD f xs=some ds→ds.length=xs.length
 |[],ds,hv=>by simp only[dD,am] at hv;subst hv;rfl
 |x::xs,ds,hv=>by
  simp only[dD] at hv
  split at hv
  ·rename_i d ds' e1 e2
   simp only[am] at hv
   subst hv
   simp[m7 e2]
  ·cases hv
theorem m8{f:AV→Option D}:∀{xs ys:List AV}{ds es:List D},dD f xs=some ds→dD f ys=some es→dD f (xs++ys)=some (ds++es)
 |[],ys,ds,es,h,k=>by simp only[dD,am] at h;subst h;exact k
 |x::xs,ys,ds,es,h,k=>by
  simp only[dD] at h
  split at h
  ·rename_i d ds' e1 e2
   simp only[am] at h
   subst h
   simp only[List.cons_append,dD,e1,m8 e2 k]
  ·cases h
theorem ke{f:AV→Option D}{k:Nat}:∀{es:List (List AV)}{ds:List (List D)},kg f es=some ds→(∀e∈es,e.length=k)→dD f es.flatten=some ds.flatten∧ds.length=es.length∧∀e∈ds,e.length=k
 |[],ds,hv,_=>by simp only[kg,am] at hv;subst hv;exact⟨rfl,rfl,λe he=>by cases he⟩
 |x::xs,ds,hv,hk=>by
  simp only[kg] at hv
  split at hv
  ·rename_i d ds' e1 e2
   simp only[am] at hv
   subst hv
   obtain⟨h1,h2,h3⟩:=ke e2 (λe he=>hk e (List.mem_cons_of_mem _ he))
   refine⟨by rw[List.flatten_cons,List.flatten_cons];exact m8 e1 h1,by simp[h2],λe he=>?_⟩
   rcases List.mem_cons.1 he with rfl|he
   ·rw[m7 e1];exact hk x List.mem_cons_self
   ·exact h3 e he
  ·cases hv
theorem ox{φ:Nat→Nat}{w:World}:Fz φ w (aU w) w:=λ_ _ _ _ h=>⟨cell_lt' h,h⟩
where
 cell_lt' {w:World} {b off:Nat} {c:Value} (h:w.cell? ⟨b,off,none⟩=some c):off<aU w b:=by
  unfold World.cell? at h
  unfold aU
  split at h
  ·rename_i cs t fr hh
   simp only at hh
   rw[hh]
   simp only[Option.isSome_none,Bool.false_eq_true,if_false] at h
   exact(Array.getElem?_eq_some_iff.1 h).1
  ·cases h
theorem ry{m φ st w}(hs:SR m φ st w):∀(n:Nat)(x:AV)(v:Value)(d:D),RA m φ w x v→jb st n x=some d→RD (aU w) w d v
 |0,x,v,d,_,hv=>by simp[jb] at hv
 |n+1,x,v,d,h,hv=>by
  have ih:=ry hs n
  cases x with
  |d x=>
   simp only[jb,am] at hv
   subst hv
   simp only[RA] at h
   exact yV (RD.mono ox _ _ h)
  |ag ps=>
   simp only[jb,Option.map_eq_some_iff] at hv
   obtain⟨ds,h1,rfl⟩:=hv
   simp only[RA] at h
   obtain⟨cs,rfl,h2⟩:=h
   simp only[RD]
   exact⟨cs,rfl,gG ih h2 h1⟩
  |os id ver=>
   simp only[jb] at hv
   split at hv
   ·rename_i T k ver' es hi
    cases hb:Nat.beq ver ver' with
    |false=>rw[hb] at hv;cases hv
    |true=>
     rw[hb,cdT,Option.map_eq_some_iff] at hv
     obtain⟨ds,hd,rfl⟩:=hv
     have hver:=nbE hb
     subst hver
     simp only[RA] at h
     obtain⟨v0,y0,g1,g2,g3⟩:=h
     obtain⟨y',xs,e1,h1,h2,h3,h4⟩:=hs.obj id _ _ hi g1
     simp only[Cz.tok.injEq] at e1
     obtain⟨rfl,rfl⟩:=e1
     have hy:=g3 rfl
     subst hy
     obtain⟨f1,f2,f3⟩:=ke hd h3
     have h2':RFs (aU w) w ds.flatten xs:=gG ih h2 f1
     simp only[RD]
     rw[←f2] at h1
     rcases h1.2 with⟨rfl,hn⟩|⟨g,cap,cur,rfl,_,hg,hnc,_,_,_⟩
     ·exact .inl ⟨List.eq_nil_of_length_eq_zero hn,none,0,rfl,λ_=>rfl⟩
     ·refine .inr ⟨g,0,k,cap,rfl,hnc,f3,dZ f3 h2' λj v hj=>?_⟩
      have:=bY h1 hj
      rw[Nat.zero_add]
      exact⟨ox.cell_lt' this,this⟩
   ·cases hv
  |ow id ver off len lo=>
   simp only[jb] at hv
   split at hv
   ·rename_i T k ver' es hi
    cases hb:(Nat.beq ver ver'&&(Nat.beq off (lo*k)&&Nat.ble (lo+len) es.length)) with
    |false=>rw[hb] at hv;cases hv
    |true=>
     rw[hb,cdT,Option.map_eq_some_iff] at hv
     obtain⟨ds,hd,rfl⟩:=hv
     rw[Bool.and_eq_true,Bool.and_eq_true] at hb
     obtain⟨hb1,hb2,hb3⟩:=hb
     have hver:=nbE hb1
     have hoff:=nbE hb2
     have hfit:=nbT hb3
     subst hver;subst hoff
     obtain⟨y,xs,g1,h1,h2,h3,h4,h5⟩:=im hs Piece.ow h hi
     have h3':∀e∈(es.drop lo).take len,e.length=k:=λe he=>h3 e (List.mem_of_mem_drop (List.mem_of_mem_take he))
     obtain⟨f1,f2,f3⟩:=ke hd h3'
     have hfl:((es.drop lo).take len).flatten=(es.flatten.drop (lo*k)).take (len*k):=by
      rw[cQ _ _ (λe he=>h3 e (List.mem_of_mem_drop he)),eu _ _ h3]
     have h2':RAs m φ w ((es.drop lo).take len).flatten ((xs.drop (lo*k)).take (len*k)):=by
      rw[hfl];exact bz _ (bN _ h2)
     have h2'':RFs (aU w) w ds.flatten ((xs.drop (lo*k)).take (len*k)):=gG ih h2' f1
     have hlen:ds.length=len:=by rw[f2,List.length_take,List.length_drop];omega
     have hxl:=h1.1
     simp only[RD]
     rcases h5 with⟨_,rfl,rfl⟩|⟨b,nn,cap,off',rfl,rfl,ho⟩
     ·exact .inl ⟨List.eq_nil_of_length_eq_zero hlen,none,0,rfl,λ_=>rfl⟩
     ·by_cases h0:len=0
      ·subst h0
       exact .inl ⟨List.eq_nil_of_length_eq_zero hlen,_,_,rfl,λh=>by cases h⟩
      ·have ho2:off'=lo*k:=ho.resolve_right h0
       subst ho2
       have hcap:nn=es.length∧nn≤cap:=by
        rcases h1.2 with⟨e1,_⟩|⟨g,cap',cur,e1,_,_,hnc,_,_,_⟩
        ·cases e1
        ·simp only[Value.slice.injEq] at e1;obtain⟨_,rfl,rfl⟩:=e1;exact⟨rfl,hnc⟩
       refine .inr ⟨b,lo*k,k,cap - lo,by rw[hlen],oM,f3,dZ f3 h2'' λj v hj=>?_⟩
       have hj2:xs[lo*k+j]? =some v:=by
        rw[List.getElem?_take] at hj
        split at hj
        ·rw[List.getElem?_drop] at hj;exact hj
        ·cases hj
       have:=bY h1 hj2
       exact⟨ox.cell_lt' this,this⟩
   ·cases hv
  |_=>simp[jb] at hv
section
variable{P:Program}{env:Env}{st:List AO}{dst:Option Tmp}{ty:TypeId}{pos:String}{after:Array Edge}{guard:Option (Nat×Bool)}
end
section
variable{P:Program}{e:En}{ops:Array Oper}{o:Oper}{rest:List Oper}{env:Env}{st:List AO}{R:Env→List AO→Prop}{d:Nat}
theorem ta{f:FuncId}{m φ w}{asz:List AV}{vs:List Value}{ds:List D}{y:D}{val:Value}(n:Nat)(hc:Pu P f ds y)(hg:y.gnd=some val)(hs:SR m φ st w)(ha:RAs m φ w asz vs)(hv:dD (jb st n) asz=some ds):
  Calls P f ⟨vs⟩ w λen w'=>en= .returned val∧Below w.heap.size w w':=by
 have h1:RFs (aU w) w ds vs:=gG (ry hs n) ha hv
 have hsr:SR [] (aU w) [] w:=pi w (hs.gl.mono ox)
 refine(hc.2 [] (aU w) w vs hsr (co h1)).mono ?_
 rintro en w' ⟨v,r,st',m',φ',rfl,⟨rfl,rfl⟩,hev,_,hra⟩
 have hv2:=vY (by simpa[RA] using hra) hg
 subst hv2
 exact⟨rfl,hev.os,hev.tape,hev.output,hev.size,λb hb=>(hev.keep b hb (by simp[In])).1⟩
end
theorem ui{P:Program}{f:FuncId}{asz:List AV}{st:List AO}{ds:List D}{y:D}{val:Value}(n:Nat)(hc:Pu P f ds y)(hg:y.gnd=some val)(hv:dD (jb st n) asz=some ds):Ctr P f asz st (λr' s'=>r'= .d y∧s'=st):=
 ⟨hc.1,λm φ w vs hs ha=>(ta n hc hg hs ha hv).mono λen w' h=>⟨val, .d y,st,m,φ,h.1,⟨rfl,rfl⟩,Ev.of_below hs h.2,hs.of_below h.2,by simpa[RA] using u4 hg⟩⟩
def knV:List (FuncId×List D×D)→bH
 |[],_,_,_=>none
 |(g,ds,y)::tab,f,asz,st=>bif Nat.beq g f&&(y.gnd.isSome&&(match dD (jb st 100) asz with
  |some ds'=>eqDs ds' ds
  |none=>false)) then some (.d y,st) else knV tab f asz st
theorem uT{P:Program}:∀{tab:List (FuncId×List D×D)},(∀p∈tab,Pu P p.1 p.2.1 p.2.2)→cC P (knV tab)
 |[],_,f,asz,st,r,st',h=>by cases h
 |(g,ds,y)::tab,ht,f,asz,st,r,st',h=>by
  unfold knV at h
  cases hb:(Nat.beq g f&&(y.gnd.isSome&&(match dD (jb st 100) asz with
   |some ds'=>eqDs ds' ds
   |none=>false))) with
  |false=>rw[hb] at h;exact uT (λp hp=>ht p (List.mem_cons_of_mem _ hp)) f asz st r st' h
  |true=>
   rw[hb] at h
   simp only[cdT,am,Prod.mk.injEq] at h
   obtain⟨rfl,rfl⟩:=h
   rw[Bool.and_eq_true,Bool.and_eq_true] at hb
   obtain⟨h1,h2,h3⟩:=hb
   have e:=nbE h1
   subst e
   obtain⟨val,hval⟩:=Option.isSome_iff_exists.1 h2
   split at h3
   ·rename_i ds' hv
    have:=eqDs_ok h3
    subst this
    exact ui 100 (ht _ List.mem_cons_self) hval hv
   ·cases h3
def orX(a b:bH):bH:=λf asz st=>match a f asz st with
 |some r=>some r
 |none=>b f asz st
theorem qN{P:Program}{a b:bH}(ha:cC P a)(hb:cC P b):cC P (orX a b):=λf asz st r st' h=>by
 unfold orX at h
 split at h
 ·rename_i h1
  obtain rfl:=inS h
  exact ha _ _ _ _ _ h1
 ·exact hb _ _ _ _ _ h
def zV:dH:=λo env st=>match o.op with
 | .slice _ x _ _ _=>(match opv env x with
  |some (.os id v)=>q9 (zS st 64 (.os id v)) env st
  |_=>none)
 |_=>none
theorem xn:fN zV:=λe o env st env' st' h=>by
 unfold zV at h
 split at h
 ·split at h
  ·exact lu h
  ·cases h
 ·cases h
def zW:dH:=λo env st=>match o.op with
 | .slice _ _ none (some _) none=>none
 |_=>zV o env st
theorem xo:fN zW:=λe o env st env' st' h=>by
 unfold zW at h
 split at h
 ·cases h
 ·exact xn e o env st env' st' h
theorem tq{P:Program}{f:FuncId}{asz:List D}{r:D}{st':List AO}(h:Ctr P f (asz.map .d) [] λr' s'=>r'= .d r∧s'=st'):Pu P f asz r:=by
 refine⟨h.1,λm φ w vs hs ha=>(h.2 m φ w vs hs ha).mono ?_⟩
 rintro en w' ⟨v,r',s',m',φ',rfl,⟨rfl,rfl⟩,hev,hsr,hra⟩
 have hm:m=[]:=List.eq_nil_of_length_eq_zero hs.len
 subst hm
 exact⟨v,_,[],[],φ',rfl,⟨rfl,rfl⟩,⟨Pre.refl _,λ_ h=> .inl h,hev.os,hev.tape,hev.output,hev.size,hev.keep,hev.fz⟩,hsr.nil,by simpa[RA] using hra⟩
def knM:List (FuncId×List AV×List AO×AV×List AO)→bH
 |[],_,_,_=>none
 |(g,xs,s,r,s')::tab,f,asz,st=>bif Nat.beq g f&&(eqAVs asz xs&&iM st s) then some (r,s') else knM tab f asz st
theorem uU{P:Program}:∀{tab:List (FuncId×List AV×List AO×AV×List AO)},(∀p∈tab,Ctr P p.1 p.2.1 p.2.2.1 λr' s'=>r'=p.2.2.2.1∧s'=p.2.2.2.2)→cC P (knM tab)
 |[],_,f,asz,st,r,st',h=>by cases h
 |(g,xs,s,r0,s0)::tab,ht,f,asz,st,r,st',h=>by
  unfold knM at h
  cases hb:(Nat.beq g f&&(eqAVs asz xs&&iM st s)) with
  |false=>rw[hb] at h;exact uU (λp hp=>ht p (List.mem_cons_of_mem _ hp)) f asz st r st' h
  |true=>
   rw[hb] at h
   simp only[cdT,am,Prod.mk.injEq] at h
   obtain⟨rfl,rfl⟩:=h
   rw[Bool.and_eq_true,Bool.and_eq_true] at hb
   have e:=nbE hb.1
   subst e
   rw[eqAVs_ok hb.2.1,hG hb.2.2]
   exact ht _ List.mem_cons_self
def zX(fs:List FuncId):dH:=λo env st=>match o.op with
 | .call c=>(match c.callee with
  | .value x=>(match opv env x,bU env c.args.toList with
   |some (.fn (.func f) _ _),some xs=>bif fs.any (Nat.beq f) then q9 (idsL st 64 xs) env st else none
   |_,_=>none)
  |_=>none)
 |_=>zW o env st
theorem xp(fs:List FuncId):fN (zX fs):=λe o env st env' st' h=>by
 unfold zX at h
 split at h
 ·split at h
  ·split at h
   ·rename_i f _ _ xs _ _
    cases hb:fs.any (Nat.beq f) with
    |false=>rw[hb] at h;cases h
    |true=>rw[hb] at h;exact lu h
   ·cases h
  ·cases h
 ·exact xo e o env st env' st' h
abbrev eH:=FuncId→List AV→List AO→Option (List (AV×List AO))
def eB(P:Program)(call:eH):Prop:=∀f asz st outs,call f asz st=some outs→Ctr P f asz st (λr s=>(r,s)∈outs)
theorem Ctr.imp{P:Program}{f:FuncId}{asz:List AV}{st:List AO}{Q Q':AV→List AO→Prop}(h:Ctr P f asz st Q)(hq:∀r s,Q r s→Q' r s):Ctr P f asz st Q':=
 ⟨h.1,λm φ w vs hs ha=>(h.2 m φ w vs hs ha).mono λ_ _ ⟨v,r,s,m',φ',a,b,c⟩=>⟨v,r,s,m',φ',a,hq r s b,c⟩⟩
def vA(call:eH):bH:=λf asz st=>match call f asz st with
 |some [o]=>some o
 |_=>none
theorem oE{P:Program}{call:eH}(hc:eB P call):cC P (vA call):=λf asz st r st' h=>by
 unfold vA at h
 split at h
 ·rename_i o ho
  obtain rfl:=inS h
  exact(hc _ _ _ _ ho).imp λr' s' hq=>by simpa using hq
 ·cases h
def ofX(call:bH):eH:=λf asz st=>match call f asz st with
 |some o=>some [o]
 |none=>none
theorem uA{P:Program}{call:bH}(hc:cC P call):eB P (ofX call):=λf asz st outs h=>by
 unfold ofX at h
 split at h
 ·rename_i o ho
  obtain rfl:=inS h
  exact(hc _ _ _ _ _ ho).imp λr' s' hq=>by obtain⟨rfl,rfl⟩:=hq;simp
 ·cases h
def iQ{α β:Type}(f:α→Option (List β)):List α→Option (List β)
 |[]=>some []
 |a::l=>match f a with
  |some r=>(match iQ f l with
   |some rs=>some (r++rs)
   |none=>none)
  |none=>none
theorem fa{α β:Type}{f:α→Option (List β)}:∀{l:List α}{rs:List β},iQ f l=some rs→∀a∈l,∃r,f a=some r∧∀x∈r,x∈rs
 |[],_,_,_,ha=>by cases ha
 |b::l,rs,h,a,ha=>by
  unfold iQ at h
  split at h
  ·rename_i r hr
   split at h
   ·rename_i rs' hrs
    obtain rfl:=inS h
    rcases List.mem_cons.1 ha with rfl|ha
    ·exact⟨r,hr,λx hx=>List.mem_append_left _ hx⟩
    ·obtain⟨r',h1,h2⟩:=fa hrs a ha
     exact⟨r',h1,λx hx=>List.mem_append_right _ (h2 x hx)⟩
   ·cases h
  ·cases h
def n9:bH:=λ_ _ _=>none
theorem tv{P:Program}:cC P n9:=λ_ _ _ _ _ h=>by cases h
def stN(call:eH)(ops:Array Oper)(env:Env)(st:List AO)(o:Oper):Option (List (AV×List AO)):=match o.op with
 | .call c=>(match c.callee with
  | .value x=>(match gF ops env o.guard,opv env x,bU env c.args.toList with
   |some true,some (.fn (.func f) first caps),some asz=>call f (first++asz++caps) st
   |_,_,_=>none)
  |_=>none)
 | .next x b=>(match gF ops env o.guard with
  |some true=>nxX env st (.next x b)
  |_=>none)
 |_=>none
def mW(P:Program)(t:Ty)(nt:Nat)(call:eH)(yld:kJ)(hook:dH)(ops:Array Oper):List Oper→Env→List AO→Option (List (Env×List AO))
 |[],env,st=>some [(env,st)]
 |o::l,env,st=>match hook o env st with
  |some (env1,st1)=>(match stN call ops env1 st1 o with
   |some outs=>(match o.dst with
    |some d=>bif Nat.ble (d+1) nt then iQ (λp=>match p with
     |(r,s)=>mW P t nt call yld hook ops l ((d,r)::env1) s) outs else none
    |none=>none)
   |none=>(match exE P t nt n9 yld ops env1 st1 o with
    |some (env',st')=>mW P t nt call yld hook ops l env' st'
    |none=>none))
  |none=>(match stN call ops env st o with
   |some outs=>(match o.dst with
    |some d=>bif Nat.ble (d+1) nt then iQ (λp=>match p with
     |(r,s)=>mW P t nt call yld hook ops l ((d,r)::env) s) outs else none
    |none=>none)
   |none=>(match exE P t nt n9 yld ops env st o with
    |some (env',st')=>mW P t nt call yld hook ops l env' st'
    |none=>none))
section
variable{P:Program}{t:Ty}{nt:Nat}{call:eH}{yld:kJ}{hook:dH}{e:En}{ops:Array Oper}{R:Env→List AO→Prop}
theorem zu{env:Env}{st:List AO}{dst:Option Tmp}{ty:TypeId}{pos:String}{after:Array Edge}{guard:Option (Nat×Bool)}{op:Op}{outs:List (AV×List AO)}(h:nxX env st op=some outs):sY P env st ⟨dst,op,ty,pos,after,guard⟩ outs:=by
 unfold nxX at h
 split at h
 ·split at h
  ·rename_i hx
   split at h
   ·rename_i hit
    split at h
    ·rename_i hmb
     obtain⟨hc,h⟩:=cz h
     obtain rfl:=inS h
     exact yj hx hit hmb (by simpa only[Bool.not_eq_true'] using hc)
    ·cases h
   ·rename_i hit
    obtain rfl:=inS h
    exact zt hx hit
   ·cases h
  ·cases h
 ·cases h
theorem oz(ht:t.ok P=true)(hc:eB P call)(hyl:mI P yld)(hh:fN hook)(hn:e.n=nt):∀{l:List Oper}{env:Env}{st:List AO}{outs:List (Env×List AO)},mW P t nt call yld hook ops l env st=some outs→(∀p∈outs,R p.1 p.2)→WL P e ops l env st R
 |[],env,st,outs,h,k=>by
  simp only[mW,am] at h
  subst h
  exact WL.nil (k _ (List.mem_singleton.2 rfl))
 |o::l,env,st,outs,h,k=>by
  have key:∀(env1:Env)(st1:List AO),(match stN call ops env1 st1 o with
   |some outs=>(match o.dst with
    |some d=>bif Nat.ble (d+1) nt then iQ (λp=>match p with
     |(r,s)=>mW P t nt call yld hook ops l ((d,r)::env1) s) outs else none
    |none=>none)
   |none=>(match exE P t nt n9 yld ops env1 st1 o with
    |some (env',st')=>mW P t nt call yld hook ops l env' st'
    |none=>none))=some outs→WL P e ops (o::l) env1 st1 R:=by
   intro env1 st1 h
   split at h
   ·rename_i os hos
    split at h
    ·rename_i d hd
     obtain⟨hb,h⟩:=cz h
     have hrest:∀p∈os,WL P e ops l ((d,p.1)::env1) p.2 R:=λp hp=>by
      obtain⟨r,h1,h2⟩:=fa h p hp
      obtain⟨r0,s0⟩:=p
      exact oz ht hc hyl hh hn h1 λq hq=>k q (h2 q hq)
     unfold stN at hos
     split at hos
     ·rename_i c hop
      split at hos
      ·rename_i x hx
       split at hos
       ·rename_i f first caps asz hw hf has
        exact WL.call (Q:=λr s=>(r,s)∈os) hop hx hf has (hc _ _ _ _ hos) (Les.refl _) (cF hw) hd (by rw[hn];exact hb) λr' s' hq=>hrest (r',s') hq
       ·cases hos
      ·cases hos
     ·rename_i x b hop
      split at hos
      ·rename_i hw
       obtain⟨od,oop,oty,opos,oaf,og⟩:=o
       simp only at hop
       subst hop
       exact WL.sN (zu hos) (cF hw) hd (by rw[hn];exact hb) hrest
      ·cases hos
     ·cases hos
    ·cases h
   ·split at h
    ·rename_i hs
     exact rb ht tv hyl hn hs (oz ht hc hyl hh hn h k)
    ·cases h
  unfold mW at h
  split at h
  ·rename_i hk
   exact(hh e _ _ _ _ _ hk).wl (key _ _ h)
  ·exact key _ _ h
end
def nxE(o:Exit×Env×List AO):Option (List (Exit×Env×List AO)):=match o.1 with
 | .ret=>some [o]
 | .exit _=>some [o]
 |_=>none
def blE(i:Nat)(o:Exit×Env×List AO):Option (List (Exit×Env×List AO)):=match o.1 with
 | .normal=>some [o]
 | .ret=>some [o]
 | .exit j=>bif Nat.beq j i then some [(.normal,o.2)] else some [o]
 |_=>none
def isN:Exit→Bool
 | .normal=>true
 |_=>false
theorem uV{x:Exit}(h:isN x=true):x= .normal:=by cases x<;>first|rfl|cases h
def fL(P:Program)[PC P](t:Ty)(nt:Nat)(call:eH)(yld:kJ)(top:Bool)(hook:dH):Nat→Code→Env→List AO→Option (List (Exit×Env×List AO))
 |0,_,_,_=>none
 |n+1,c,env,st=>match c with
  | .skip=>some [(.normal,env,st)]
  | .ret=>some [(.ret,env,st)]
  | .exit i=>some [(.exit i,env,st)]
  | .seq x y=>(match fL P t nt call yld top hook n x env st with
   |some outs=>iQ (λo=>bif isN o.1 then fL P t nt call yld top hook n y o.2.1 o.2.2 else nxE o) outs
   |none=>none)
  | .block i x=>(match fL P t nt call yld top hook n x env st with
   |some outs=>iQ (blE i) outs
   |none=>none)
  | .cond b x y=>(match(opv env b).bind qd with
   |some true=>fL P t nt call yld top hook n x env st
   |some false=>fL P t nt call yld top hook n y env st
   |none=>none)
  | .region _ a false=>bif bO a.toList then(match mW P t nt call yld hook a a.toList env st with
   |some outs=>some (outs.map λp=>(.normal,p))
   |none=>none) else none
  | .region _ a true=>(match exA P t nt (vA call) a.toList env st with
   |some p=>some [(.normal,p)]
   |none=>none)
  | .loop x=>(match fL P t nt call yld top hook n x env st with
   |some outs=>iQ (λo=>bif isN o.1 then fL P t nt call yld top hook n (.loop x) o.2.1 o.2.2 else nxE o) outs
   |none=>none)
  | .rangeFunc g ps asg body=>(match exC P t nt (vA call) yld top hook n (.rangeFunc g ps asg body) env st with
   |some o=>some [o]
   |none=>none)
  |_=>none
section
variable{P:Program}[PC P]{t:Ty}{nt:Nat}{call:eH}{yld:kJ}{top:Bool}{hook:dH}{e:En}
theorem sq(ht:t.ok P=true)(hc:eB P call)(hyl:mI P yld)(htop:top=true→e.rd=none∧e.ds=none)(hh:fN hook)(hn:e.n=nt):∀(n:Nat),
  (∀(c:Code)(env:Env)(st:List AO)(outs:List (Exit×Env×List AO))(κ:Ko),fL P t nt call yld top hook n c env st=some outs→(∀o∈outs,WE P e o.1 κ o.2.1 o.2.2)→WC P e c κ env st)∧
  (∀(c:Code)(env:Env)(st:List AO)(outs:List (Exit×Env×List AO))(κ:Ko),fL P t nt call yld top hook n (.loop c) env st=some outs→(∀o∈outs,WE P e o.1 κ o.2.1 o.2.2)→∃m,n=m+1∧WC P e c (.rl m c κ) env st)
 |0=>⟨λ_ _ _ _ _ h=>(by cases h),λ_ _ _ _ _ h=>(by cases h)⟩
 |n+1=>by
  obtain⟨iA,iB⟩:=sq ht hc hyl htop hh hn n
  have hB:∀(c:Code)(env:Env)(st:List AO)(outs:List (Exit×Env×List AO))(κ:Ko),fL P t nt call yld top hook (n+1) (.loop c) env st=some outs→(∀o∈outs,WE P e o.1 κ o.2.1 o.2.2)→∃m,n+1=m+1∧WC P e c (.rl m c κ) env st:=by
   intro c env st outs κ h k
   refine⟨n,rfl,?_⟩
   dsimp only[fL] at h
   split at h
   ·rename_i os hx
    refine iA _ _ _ _ _ hx λo ho=>?_
    obtain⟨r,h1,h2⟩:=fa h o ho
    have hk:∀q∈r,WE P e q.1 κ q.2.1 q.2.2:=λq hq=>k q (h2 q hq)
    obtain⟨x,env1,st1⟩:=o
    cases hN:isN x with
    |true=>
     simp only[hN,cdT] at h1
     obtain rfl:=uV hN
     obtain⟨m,hm,hw⟩:=iB _ _ _ _ _ h1 hk
     subst hm
     exact iC hw
    |false=>
     simp only[hN,cdF] at h1
     unfold nxE at h1
     split at h1
     ·rename_i hx1;obtain rfl:=inS h1;simp only at hx1;subst hx1;exact cO (hk _ (List.mem_singleton.2 rfl))
     ·rename_i hx1;obtain rfl:=inS h1;simp only at hx1;subst hx1;exact iY (hk _ (List.mem_singleton.2 rfl))
     ·cases h1
   ·cases h
  refine⟨?_,hB⟩
  intro c env st outs κ h k
  cases c with
  |loop c=>
   obtain⟨m,_,hw⟩:=hB _ _ _ _ _ h k
   exact j9 m hw
  |skip=>
   dsimp only[fL] at h
   obtain rfl:=inS h
   exact nO (k _ (List.mem_singleton.2 rfl))
  |ret=>
   dsimp only[fL] at h
   obtain rfl:=inS h
   exact qz (k _ (List.mem_singleton.2 rfl))
  |exit i=>
   dsimp only[fL] at h
   obtain rfl:=inS h
   exact nP (k _ (List.mem_singleton.2 rfl))
  |seq a b=>
   dsimp only[fL] at h
   split at h
   ·rename_i os hx
    refine lX (iA _ _ _ _ _ hx λo ho=>?_)
    obtain⟨r,h1,h2⟩:=fa h o ho
    have hk:∀q∈r,WE P e q.1 κ q.2.1 q.2.2:=λq hq=>k q (h2 q hq)
    obtain⟨x,env1,st1⟩:=o
    cases hN:isN x with
    |true=>
     simp only[hN,cdT] at h1
     obtain rfl:=uV hN
     exact nM (iA _ _ _ _ _ h1 hk)
    |false=>
     simp only[hN,cdF] at h1
     unfold nxE at h1
     split at h1
     ·rename_i hx1;obtain rfl:=inS h1;simp only at hx1;subst hx1;exact iX (hk _ (List.mem_singleton.2 rfl))
     ·rename_i hx1;obtain rfl:=inS h1;simp only at hx1;subst hx1;exact gB (hk _ (List.mem_singleton.2 rfl))
     ·cases h1
   ·cases h
  |block i a=>
   dsimp only[fL] at h
   split at h
   ·rename_i os hx
    refine fO (iA _ _ _ _ _ hx λo ho=>?_)
    obtain⟨r,h1,h2⟩:=fa h o ho
    have hk:∀q∈r,WE P e q.1 κ q.2.1 q.2.2:=λq hq=>k q (h2 q hq)
    obtain⟨x,env1,st1⟩:=o
    unfold blE at h1
    split at h1
    ·rename_i hx1;obtain rfl:=inS h1;simp only at hx1;subst hx1;exact qx (hk _ (List.mem_singleton.2 rfl))
    ·rename_i hx1;obtain rfl:=inS h1;simp only at hx1;subst hx1;exact iZ (hk _ (List.mem_singleton.2 rfl))
    ·rename_i j hx1
     simp only at hx1
     subst hx1
     cases hb:Nat.beq j i with
     |true=>
      rw[hb] at h1
      obtain rfl:=inS h1
      have:=nbE hb
      subst this
      exact ja (hk _ (List.mem_singleton.2 rfl))
     |false=>
      rw[hb] at h1
      obtain rfl:=inS h1
      exact gD hb (hk _ (List.mem_singleton.2 rfl))
    ·cases h1
   ·cases h
  |cond b x y=>
   dsimp only[fL] at h
   split at h
   ·rename_i hb
    obtain⟨z,h1,h2⟩:=bF hb
    rw[fS h2] at h1
    exact fq h1 (λ_=>iA _ _ _ _ _ h k) (λh=>by cases h)
   ·rename_i hb
    obtain⟨z,h1,h2⟩:=bF hb
    rw[fS h2] at h1
    exact fq h1 (λh=>by cases h) (λ_=>iA _ _ _ _ _ h k)
   ·cases h
  |region id a b=>
   cases b with
   |false=>
    dsimp only[fL] at h
    obtain⟨hd,h⟩:=cz h
    split at h
    ·rename_i os hx
     obtain rfl:=inS h
     exact kd (l:=a.toList) (oz ht hc hyl hh hn hx λp hp=>k (.normal,p) (List.mem_map.2 ⟨p,hp,rfl⟩)) hd
    ·cases h
   |true=>
    dsimp only[fL] at h
    split at h
    ·rename_i p hx
     obtain rfl:=inS h
     exact vp (l:=a.toList) ht (oE hc) hn hx (k _ (List.mem_singleton.2 rfl))
    ·cases h
  |rangeFunc g ps asg body=>
   dsimp only[fL] at h
   split at h
   ·rename_i o hx
    obtain rfl:=inS h
    obtain⟨x,env1,st1⟩:=o
    exact(kF ht (oE hc) hyl htop hh hn n).1 _ _ _ _ _ _ _ hx (k _ (List.mem_singleton.2 rfl))
   ·cases h
  |_=>cases h
end
def retE(fn:Func)(P:Program)(o:Exit×Env×List AO):Option (List (AV×List AO)):=match o.1 with
 | .ret=>(match tl P o.2.1 o.2.2 fn.results.toList with
  |some r=>some [(r,o.2.2)]
  |none=>none)
 | .normal=>(match tl P o.2.1 o.2.2 fn.results.toList with
  |some r=>some [(r,o.2.2)]
  |none=>none)
 |_=>none
def vm(P:Program)[PC P](t:Ty)(call:eH)(hook:dH)(fuel:Nat)(fn:Func)(asz:List AV)(st:List AO):Option (List (AV×List AO)):=
 match fn.body with
 |some c=>bif !(fn.name== "runtime.NumGoroutine")&&Nat.ble asz.length fn.ntmps then(match fL P t fn.ntmps call (wk P t (vA call) hook fuel) true hook fuel c (fE 0 asz) st with
  |some outs=>iQ (retE fn P) outs
  |none=>none) else none
 |none=>none
def pR:List (AV×List AO)→List (AV×List AO)
 |[]=> []
 |p::l=>bif (pR l).any (λq=>pP p.1 q.1&&iM p.2 q.2) then pR l else p::pR l
theorem mE:∀{l:List (AV×List AO)}{p:AV×List AO},p∈l→p∈pR l
 |q::l,p,h=>by
  unfold pR
  cases hb:(pR l).any (λz=>pP q.1 z.1&&iM q.2 z.2) with
  |true=>
   rw[cdT]
   rcases List.mem_cons.1 h with rfl|h
   ·obtain⟨z,h1,h2⟩:=List.any_eq_true.1 hb
    rw[Bool.and_eq_true] at h2
    have:p=z:=Prod.ext (jP h2.1) (hG h2.2)
    rw[this];exact h1
   ·exact mE h
  |false=>
   rw[cdF]
   rcases List.mem_cons.1 h with rfl|h
   ·exact List.mem_cons_self
   ·exact List.mem_cons_of_mem _ (mE h)
def xx(P:Program)[PC P](t:Ty)(fT:FuncId→Option Func)(kn:eH)(hook:dH)(fuel:Nat):Nat→eH
 |0=>λ_ _ _=>none
 |n+1=>λf asz st=>match kn f asz st with
  |some r=>some r
  |none=>(match fT f with
   |some fn=>(match vm P t (xx P t fT kn hook fuel n) hook fuel fn asz st with
    |some outs=>(match pR (outs.map λp=>(p.1,m9 st.length p.1 p.2)) with
     |[(r,s)]=>dj s λs'=>some [(r,s')]
     |l=>some l)
    |none=>none)
   |none=>none)
section
variable{P:Program}[PC P]{t:Ty}
theorem vl(ht:t.ok P=true){call:eH}(hc:eB P call){hook:dH}(hh:fN hook){fuel:Nat}{f:FuncId}{fn:Func}(hf:P.funcs[f]? =some fn){asz:List AV}{st:List AO}{outs:List (AV×List AO)}(h:vm P t call hook fuel fn asz st=some outs):Ctr P f asz st (λr s=>(r,s)∈outs):=by
 unfold vm at h
 split at h
 ·rename_i c hb
  obtain⟨hq,h⟩:=cz h
  rw[Bool.and_eq_true,Bool.not_eq_true'] at hq
  refine kH hf hq.1 hb rfl hq.2 λm φ w _=>?_
  split at h
  ·rename_i os hx
   refine(sq (e:=⟨m,φ,w,fn.ntmps,none,none⟩) ht hc (wj ht (oE hc) hh) (λ_=>⟨rfl,rfl⟩) hh rfl fuel).1 _ _ _ _ _ hx λo ho=>?_
   obtain⟨r,h1,h2⟩:=fa h o ho
   obtain⟨x,env1,st1⟩:=o
   unfold retE at h1
   split at h1
   ·rename_i hx1
    simp only at hx1
    subst hx1
    split at h1
    ·rename_i r1 hr
     obtain rfl:=inS h1
     exact aG (rH hr) (h2 _ (List.mem_singleton.2 rfl))
    ·cases h1
   ·rename_i hx1
    simp only at hx1
    subst hx1
    split at h1
    ·rename_i r1 hr
     obtain rfl:=inS h1
     exact ce (aG (rH hr) (h2 _ (List.mem_singleton.2 rfl)))
    ·cases h1
   ·cases h1
  ·cases h
 ·cases h
theorem sn(ht:t.ok P=true){fT:FuncId→Option Func}(hT:∀f fn,fT f=some fn→P.funcs[f]? =some fn){kn:eH}(hk:eB P kn){hook:dH}(hh:fN hook){fuel:Nat}:∀n,eB P (xx P t fT kn hook fuel n)
 |0=>λ_ _ _ _ h=>by cases h
 |n+1=>λf asz st outs h=>by
  unfold xx at h
  split at h
  ·rename_i hr
   obtain rfl:=inS h
   exact hk _ _ _ _ hr
  ·split at h
   ·rename_i fn hfn
    split at h
    ·rename_i os hx
     have h:pR (os.map λp=>(p.1,m9 st.length p.1 p.2))=outs:=by
      split at h
      ·rename_i hl
       rw[db] at h
       rw[hl];exact inS h
      ·exact inS h
     subst h
     refine(tL (vl ht (sn ht hT hk hh n) hh (hT _ _ hfn) hx)).imp λr s hq=>?_
     obtain⟨s0,h1,rfl⟩:=hq
     exact mE (List.mem_map.2 ⟨(r,s0),h1,rfl⟩)
    ·cases h
   ·cases h
end
def orN(a b:eH):eH:=λf asz st=>match a f asz st with
 |some r=>some r
 |none=>b f asz st
theorem zr{P:Program}{a b:eH}(ha:eB P a)(hb:eB P b):eB P (orN a b):=λf asz st outs h=>by
 unfold orN at h
 split at h
 ·rename_i h1
  obtain rfl:=inS h
  exact ha _ _ _ _ h1
 ·exact hb _ _ _ _ h
end Go.Sk
