/-
  A store of slices of our own into cells of a slice of our own.
-/
import Derived.Maps.RangeRun
import Derived.Laws.IdiomStrings
import Derived.Test.YtpodhdopgcedlaaGreatDoorT
set_option linter.unusedVariables false
set_option linter.unusedSimpArgs false
set_option linter.unusedSectionVars false
set_option linter.unnecessarySimpa false
namespace Go.Sk
open Go.RowKit (Below)
section
variable{P:Program}{env:Env}{st st':List AO}{dst:Option Tmp}{ty:TypeId}{pos:String}{after:Array Edge}{guard:Option (Nat×Bool)}
theorem nT{T:TypeId}{x y:Operand}{id ver off n T' k:Nat}{es es':List (List AV)}{r:AV}{rs:List AV}(hx:opv env x=some (.pe id ver off))(hs:st[id]? =some (.os T' k ver es))(hy:opv env y=some r)(hk:r.okS st=true)(hc:r.cells=rs)(hk1:rs.all (AV.ok1S st)=true)
  (hn:aI P T=some n)(hl:rs.length=n)(hlen:off+n≤es.flatten.length)(hes:es'.flatten=es.flatten.take off++rs++es.flatten.drop (off+n))(hel:es'.length=es.length)(hek:∀e∈es',e.length=k):
  Does P env st ⟨dst, .store T x y,ty,pos,after,guard⟩ (.d (.v undef)) (st.set id (.os T' k ver es')):=λm φ a w hsr he=>by
 obtain⟨b,len,cap,xs,g1,g2,g3,g4,g5,g6⟩:=jb hsr he hx hs
 obtain⟨us,q1,q2⟩:=eQ hsr (ap he hy) hk
 rw[hc] at q2
 have hul:=ak q2
 have hxl:=ak g4
 obtain⟨r1,r2⟩:=g3
 rcases r2 with⟨hv,_⟩|⟨g,cap',cur,hv,p1,p2,p3,p4,p5,p6⟩
 ·cases hv
 simp only[Value.slice.injEq,af,Addr.mk.injEq,and_true] at hv
 obtain⟨rfl,rfl,rfl⟩:=hv
 have hcl:es.length*k≤cur.size:=by rw[p5];exact Nat.mul_le_mul_right _ p3
 have hfl:es.flatten.length=es.length*k:=oM
 have hst:=run_storeCells_at P b off T' us 0 cur w p2 oM (iL hsr q2 hk1)
 simp only[Nat.add_zero,hul,hl] at hst
 have hsize:us.length=n:=oM
 have hnew:RAs m φ w es'.flatten (xs.take off++us++xs.drop (off+n)):=by rw[hes];exact aj (aj (aU off g4) q2) (bg _ g4)
 have htk:((cur.toList.take off++us++cur.toList.drop (off+n)).toArray.toList).take (es.length*k)=xs.take off++us++xs.drop (off+n):=by
  rw[←p6]
  apply List.ext_getElem?
  intro j
  have hcz:cur.toList.length=cur.size:=sM
  simp only[List.getElem?_take,List.getElem?_append,List.length_append,List.length_take,List.getElem?_drop,hsize,hcz]
  rw[Nat.min_eq_left (show off≤cur.size by omega),Nat.min_eq_left (show es.length*k≤cur.size by omega),Nat.min_eq_left (show off≤es.length*k by omega)]
  by_cases h1:j<es.length*k
  ·rw[if_pos h1]
   by_cases h2:j<off+n
   ·rw[if_pos h2,if_pos h2]
    by_cases h3:j<off
    ·simp only[if_pos h3,if_pos h1]
    ·simp only[if_neg h3]
   ·rw[if_neg h2,if_neg h2]
    have:off+n+(j - (off+n))=j:=oM
    rw[this,if_pos h1]
  ·rw[if_neg h1,if_neg (show¬j<off+n by omega)]
   have:off+n+(j - (off+n))=j:=oM
   rw[this,if_neg h1]
 obtain⟨k1,k2⟩:=mf hsr hs g1 hnew hel hek cur p2 (cur.toList.take off++us++cur.toList.drop (off+n)).toArray (by simp[hsize];omega) htk
 refine⟨undef,_,m,φ, .inr ⟨?_,rfl⟩,k1,k2,RAv⟩
 simp[execOp,Instr.storeAt,Instr.sureAddr,g2,storeVar,q1,ah hn,hsize,hst]
end
open Go.MapKept (IsKey sameNow_of_keys run_checkKey run_findKey run_keyThatStays)
def ixL{κ:Type}[DecidableEq κ]:List κ→κ→Option Nat
 |[],_=>none
 |a::l,k=>if a=k then some 0 else(ixL l k).map (·+1)
theorem pY{κ:Type}[DecidableEq κ]{k:κ}:∀{L:List κ}{j:Nat},ixL L k=some j→L[j]? =some k
 |[],_,h=>by cases h
 |a::L,j,h=>by
  unfold ixL at h
  by_cases hp:a=k
  ·rw[if_pos hp] at h
   obtain rfl:=inS h
   rw[hp];rfl
  ·rw[if_neg hp,Option.map_eq_some_iff] at h
   obtain⟨i,h1,rfl⟩:=h
   rw[List.getElem?_cons_succ]
   exact pY h1
structure KeyX(P:Program){κ:Type}[DecidableEq κ](kt:TypeId)(kf:κ→Value):Prop where
 chk:∀em k w,(Instr.checkKey em 10000 kt (kf k)).run P w= .ok () w
 find:∀(k:κ)(L:List κ)(l:List MapEntry)(w:World),l.map (·.key)=L.map kf→(Instr.findKey kt (kf k) l).run P w= .ok ((ixL L k).bind λj=>(l[j]?).map λe=>(j,e.val)) w
 stays:∀k w,(Instr.keyThatStays (kf k) (kf k)).run P w= .ok (kf k) w
section
variable{κ:Type}[DecidableEq κ]{P:Program}{d:TypeDesc}{kt:TypeId}{kf:κ→Value}
theorem kz(hK:KeyF d kf)(k:κ):∀(L:List κ)(l:List MapEntry)(i:Nat),l.map (·.key)=L.map kf→Instr.findNow d (kf k) l i=some ((ixL L k).bind λj=>(l[j]?).map λe=>(i+j,e.val))
 |[],[],i,_=>rfl
 |a::L,e::l,i,h=>by
  simp only[List.map_cons,List.cons.injEq] at h
  obtain⟨r,hr,hiff⟩:=sameNow_of_keys (hK.key k) (h.1▸hK.key a:IsKey d e.key)
  by_cases hp:a=k
  ·have:r=true:=hiff.2 (by rw[h.1,hp])
   simp[Instr.findNow,hr,this,ixL,hp]
  ·have hne:r=false:=by
    cases r with
    |false=>rfl
    |true=>exact absurd (hK.inj _ _ ((hiff.1 rfl).trans h.1)).symm hp
   rw[show ixL (a::L) k=(ixL L k).map (·+1) by rw[ixL,if_neg hp]]
   simp only[Instr.findNow,hr,hne,kz hK k L l (i+1) h.2]
   cases ixL L k with
   |none=>rfl
   |some j=>
    simp only[bnS,Option.map_some,List.getElem?_cons_succ]
    rw[show i+1+j=i+(j+1) by omega]
 |[],_::_,_,h=>by simp at h
 |_::_,[],_,h=>by simp at h
theorem gC(hK:KeyS P kt kf)(k:κ)(w:World):∀(L:List κ)(l:List MapEntry)(i:Nat),l.map (·.key)=L.map kf→(Instr.findAsking kt (kf k) l i).run P w= .ok ((ixL L k).bind λj=>(l[j]?).map λe=>(i+j,e.val)) w
 |[],[],i,_=>by simp[Instr.findAsking,ixL]
 |a::L,e::l,i,h=>by
  simp only[List.map_cons,List.cons.injEq] at h
  have hr:=hK.eq k a w
  rw[←h.1] at hr
  by_cases hp:a=k
  ·simp[Instr.findAsking,hr,hp,ixL]
  ·have hp':¬k=a:=λe=>hp e.symm
   rw[show ixL (a::L) k=(ixL L k).map (·+1) by rw[ixL,if_neg hp]]
   simp only[Instr.findAsking,Sem.run_bind,hr,hp',decide_false,Result.andThen_ok,Bool.false_eq_true,if_false,gC hK k w L l (i+1) h.2]
   cases ixL L k with
   |none=>rfl
   |some j=>
    simp only[bnS,Option.map_some,List.getElem?_cons_succ]
    rw[show i+1+j=i+(j+1) by omega]
 |[],_::_,_,h=>by simp at h
 |_::_,[],_,h=>by simp at h
theorem tH(hd:P.underlying kt=some d)(hK:KeyF d kf):KeyX P kt kf:=
 ⟨λem k w=>by simp[run_checkKey hd (hK.key k)],λk L l w h=>run_findKey hd (by simpa using kz hK k L l 0 h),λk w=>by simp[run_keyThatStays (hK.key k)]⟩
theorem tG(hK:KeyS P kt kf):KeyX P kt kf:=
 ⟨hK.chk,λk L l w h=>by rw[run_findKey_eq (P:=P) w hK.wide (kf k) l];simpa using gC hK k w L l 0 h,λk w=>fR hK k w⟩
end
inductive KDk where
 |i(k:IntKind)
 |p(k1 k2:IntKind)
def lk(P:Program)(kt:TypeId):Option KDk:=match P.underlying kt with
 |some (.int k)=>some (.i k)
 |some (.struct fs)=>(match fs.toList with
  |[f1,f2]=>(match P.underlying f1.type,P.underlying f2.type,iw P 100 kt with
   |some (.int k1),some (.int k2),some [.int k1', .int k2']=>bif decide (k1=k1')&&(decide (k2=k2')&&(Nat.beq f1.offset 0&&Nat.beq f2.offset 1)) then some (.p k1 k2) else none
   |_,_,_=>none)
  |_=>none)
 |_=>none
def dkI(k:IntKind):Value→Option Int
 | .int k' i=>bif decide (k=k') then some i else none
 |_=>none
def dkP(k1 k2:IntKind):Value→Option (Int×Int)
 | .agg a=>(match a.toList with
  |[.int a1 i, .int a2 j]=>bif decide (k1=a1)&&decide (k2=a2) then some (i,j) else none
  |_=>none)
 |_=>none
theorem s8{k:IntKind}{v:Value}{i:Int}(h:dkI k v=some i):v= .int k i:=by
 unfold dkI at h
 split at h
 ·rename_i k' j
  cases hb:decide (k=k') with
  |true=>rw[hb] at h;obtain rfl:=inS h;rw[of_decide_eq_true hb]
  |false=>rw[hb] at h;cases h
 ·cases h
theorem s7{k1 k2:IntKind}{v:Value}{x:Int×Int}(h:dkP k1 k2 v=some x):v= .agg ⟨[.int k1 x.1, .int k2 x.2]⟩:=by
 unfold dkP at h
 split at h
 ·rename_i a
  split at h
  ·rename_i a1 i a2 j hl
   cases hb:decide (k1=a1)&&decide (k2=a2) with
   |true=>
    rw[hb] at h
    obtain rfl:=inS h
    rw[Bool.and_eq_true] at hb
    obtain⟨a⟩:=a
    simp only at hl
    rw[hl,of_decide_eq_true hb.1,of_decide_eq_true hb.2]
   |false=>rw[hb] at h;cases h
  ·cases h
 ·cases h
theorem pX{P:Program}{kt:TypeId}{k:IntKind}(h:lk P kt=some (.i k)):KeyX P kt (λx:Int=>Value.int k x):=by
 unfold lk at h
 split at h
 ·rename_i k' hu
  simp only[af,KDk.i.injEq] at h
  subst h
  exact tH hu (KeyF.int _)
 ·split at h
  ·split at h
   ·rw[Bool.cond_eq_ite] at h
    split at h<;>cases h
   ·cases h
  ·cases h
 ·cases h
theorem pW{P:Program}{kt:TypeId}{k1 k2:IntKind}(h:lk P kt=some (.p k1 k2)):KeyX P kt (λx:Int×Int=>Value.agg ⟨[.int k1 x.1, .int k2 x.2]⟩):=by
 unfold lk at h
 split at h
 ·cases h
 ·rename_i fs hu
  split at h
  ·rename_i f1 f2 hf
   split at h
   ·rename_i a1 a2 b1 b2 h1 h2 h3
    cases hb:(decide (a1=b1)&&(decide (a2=b2)&&(Nat.beq f1.offset 0&&Nat.beq f2.offset 1))) with
    |true=>
     rw[hb] at h
     simp only[cdT,af,KDk.p.injEq] at h
     obtain⟨rfl,rfl⟩:=h
     simp only[Bool.and_eq_true] at hb
     obtain⟨c1,c2,c3,c4⟩:=hb
     have c1:=of_decide_eq_true c1
     have c2:=of_decide_eq_true c2
     subst c1 c2
     obtain⟨fs⟩:=fs
     simp only at hf
     subst hf
     exact tG (jq hu h1 h2 (nbE c3) (nbE c4) h3)
    |false=>rw[hb] at h;cases h
   ·cases h
  ·cases h
 ·cases h
def nF{κ:Type}(dk:Value→Option κ):List (Value×Nat)→Option (List κ)
 |[]=>some []
 |p::l=>match dk p.1,nF dk l with
  |some k,some ks=>some (k::ks)
  |_,_=>none
theorem kq{κ:Type}{dk:Value→Option κ}{kf:κ→Value}(hd:∀v k,dk v=some k→v=kf k):∀{es:List (Value×Nat)}{L:List κ},nF dk es=some L→es.map (·.1)=L.map kf
 |[],L,h=>by obtain rfl:=inS h;rfl
 |p::l,L,h=>by
  unfold nF at h
  split at h
  ·rename_i h1 h2
   obtain rfl:=inS h
   rw[List.map_cons,List.map_cons,hd _ _ h1,kq hd h2]
  ·cases h
def pB:List AV→Option (List Value)
 |[]=>some []
 | .d (.v v)::l=>match pB l with
  |some vs=>some (v::vs)
  |none=>none
 |_=>none
def pC:List D→Option (List Value)
 |[]=>some []
 | .v v::l=>match pC l with
  |some vs=>some (v::vs)
  |none=>none
 |_=>none
def agV:AV→Option (List Value)
 | .ag ps=>pB ps
 | .d (.ag ds)=>pC ds
 |_=>none
theorem m2:∀{ps:List AV}{vs:List Value},pB ps=some vs→ps=(vs.map D.v).map AV.d
 |[],vs,h=>by obtain rfl:=inS h;rfl
 |x::l,vs,h=>by
  unfold pB at h
  split at h
  ·rename_i h0;cases h0
  ·rename_i v l' h0
   obtain⟨rfl,rfl⟩:=List.cons.inj h0
   split at h
   ·rename_i vs' h1
    obtain rfl:=inS h
    rw[m2 h1]
    rfl
   ·cases h
  ·cases h
theorem m4:∀{ps:List D}{vs:List Value},pC ps=some vs→ps=vs.map D.v
 |[],vs,h=>by obtain rfl:=inS h;rfl
 |x::l,vs,h=>by
  unfold pC at h
  split at h
  ·rename_i h0;cases h0
  ·rename_i v l' h0
   obtain⟨rfl,rfl⟩:=List.cons.inj h0
   split at h
   ·rename_i vs' h1
    obtain rfl:=inS h
    rw[m4 h1]
    rfl
   ·cases h
  ·cases h
theorem kJ{x:AV}{vs:List Value}(h:agV x=some vs):Le x (.d (.ag (vs.map D.v))):=by
 unfold agV at h
 split at h
 ·rw[m2 h];exact aO (Les.refl _)
 ·rw[m4 h];exact Le.refl _
 ·cases h
def uF(x:AV):Option Value:=match x with
 | .d (.v v)=>some v
 |x=>(agV x).map λvs=> .agg ⟨vs⟩
theorem pV{m φ w}{x:AV}{v y:Value}(h:uF x=some v)(hr:RA m φ w x y):y=v:=by
 unfold uF at h
 split at h
 ·obtain rfl:=inS h
  simpa[RA,RD] using hr
 ·rw[Option.map_eq_some_iff] at h
  obtain⟨vs,h1,rfl⟩:=h
  have:=kJ h1 _ _ _ _ hr
  simp only[RA,RD] at this
  obtain⟨cs,e1,e2⟩:=this
  rw[d2 e2] at e1
  exact e1
def lkG{κ:Type}[DecidableEq κ](dk:Value→Option κ)(es:List (Value×Nat))(xs:List AV)(zv kv:Value):Option (AV×Bool):=
 match dk kv,nF dk es with
 |some k,some L=>(match ixL L k with
  |some j=>(match xs[j]? with
   |some x=>some (x,true)
   |none=>none)
  |none=>some (dO zv,false))
 |_,_=>none
def lkD(P:Program)(kt:TypeId)(es:List (Value×Nat))(xs:List AV)(zv kv:Value):Option (AV×Bool):=match lk P kt with
 |some (.i k)=>lkG (dkI k) es xs zv kv
 |some (.p k1 k2)=>lkG (dkP k1 k2) es xs zv kv
 |none=>none
def tuB(c:Bool)(r:AV×Bool):AV:=bif c then .tu [r.1, .d (.v (.bool r.2))] else r.1
def lkX(P:Program)(env:Env)(st:List AO)(T:TypeId)(x ki:Operand)(c:Bool):Option AV:=
 match P.underlying T,opv env x,(opv env ki).bind uF with
 |some (.map kt et),some xr,some kv=>(match(P.info? et).bind (·.zero),xr with
  |some zv, .mp id=>(match st[id]? with
   |some (.mb es xs _)=>(match lkD P kt es xs zv kv with
    |some r=>some (tuB c r)
    |none=>none)
   |_=>none)
  |some zv, .d (.v (.map none))=>(match lkD P kt [] [] zv kv with
   |some r=>some (tuB c r)
   |none=>none)
  |_,_=>none)
 |_,_,_=>none
def muG{κ:Type}[DecidableEq κ](dk:Value→Option κ)(es:List (Value×Nat))(xs:List AV)(cl:Nat)(kv:Value)(uu:AV):Option AO:=
 match dk kv,nF dk es with
 |some k,some L=>(match ixL L k with
  |some j=>some (.mb es (xs.set j uu) cl)
  |none=>some (.mb (es++ [(kv,cl)]) (xs++ [uu]) (cl+1)))
 |_,_=>none
def muX(P:Program)(env:Env)(st:List AO)(T:TypeId)(x ki v:Operand):Option (AV×List AO):=
 match P.underlying T,opv env x,(opv env ki).bind uF,opv env v with
 |some (.map kt _),some (.mp id),some kv,some uu=>(match st[id]? with
  |some (.mb es xs cl)=>(match(match lk P kt with
    |some (.i k)=>muG (dkI k) es xs cl kv uu
    |some (.p k1 k2)=>muG (dkP k1 k2) es xs cl kv uu
    |none=>none) with
   |some o=>some (.d (.v undef),st.set id o)
   |none=>none)
  |_=>none)
 |_,_,_,_=>none
def rgX(P:Program)(env:Env)(st:List AO)(T:TypeId)(x:Operand):Option (AV×List AO):=
 match P.underlying T,opv env x with
 |some (.map _ _),some (.mp id)=>(match st[id]? with
  |some (.mb _ _ cl)=>some (.pt st.length 0,st++ [.it (.mp id) cl [] cl])
  |_=>none)
 |some (.map _ _),some (.d (.v (.map none)))=>some (.pt st.length 0,st++ [.it (.d (.v (.map none))) 0 [] 0])
 |_,_=>none
def qm(es:List (Value×Nat))(s:Nat):Option Nat:=match es with
 |[]=>none
 |p::l=>bif Nat.beq p.2 s then some 0 else(match qm l s with
  |some j=>some (j+1)
  |none=>none)
def enX(env:Env)(st:List AO)(x:Operand):Option AV:=match opv env x with
 |some (.pt iid 0)=>(match st[iid]? with
  |some (.it (.mp id) _ seen stp)=>(match seen.getLast?,st[id]? with
   |some s,some (.mb es xs cl)=>bif Nat.beq cl stp then(match qm es s with
    |some j=>(match es[j]?,xs[j]? with
     |some p,some r=>some (.tu [dO p.1,r])
     |_,_=>none)
    |none=>none) else none
   |_,_=>none)
  |_=>none)
 |_=>none
def kh(iid id since stp cl:Nat)(seen:List Nat)(es:List (Value×Nat))(xs:List AV)(st:List AO):List (AV×List AO):=
 (bif es.all (λp=>seen.contains p.2|| !(Nat.blt p.2 since)) then[(.tu [.d (.v (.bool false))],st)] else[])++
 (List.zip es xs).filterMap λp=>bif seen.contains p.1.2 then none else some (.tu [.d (.v (.bool true)),dO p.1.1,p.2],st.set iid (.it (.mp id) since (seen++ [p.1.2]) cl))
def nxX(env:Env)(st:List AO):Op→Option (List (AV×List AO))
 | .next x false=>(match opv env x with
  |some (.pt iid 0)=>(match st[iid]? with
   |some (.it (.mp id) since seen stp)=>(match st[id]? with
    |some (.mb es xs cl)=>bif !(!seen.isEmpty&&(!es.isEmpty&&es.all λp=>Nat.ble stp p.2)) then some (kh iid id since stp cl seen es xs st) else none
    |_=>none)
   |some (.it (.d (.v (.map none))) _ _ _)=>some [(.tu [.d (.v (.bool false))],st)]
   |_=>none)
  |_=>none)
 |_=>none
section
variable{P:Program}{env:Env}{st:List AO}{dst:Option Tmp}{ty:TypeId}{pos:String}{after:Array Edge}{guard:Option (Nat×Bool)}
theorem sq{κ:Type}[DecidableEq κ]{dk:Value→Option κ}{kf:κ→Value}(hd:∀v k,dk v=some k→v=kf k){kt:TypeId}(hK:KeyX P kt kf){es:List (Value×Nat)}{xs:List AV}{zv kv:Value}{r:AV×Bool}(h:lkG dk es xs zv kv=some r)
  {m φ w}{l:List MapEntry}(q2:l.map (λe=>(e.key,e.born))=es)(q3:RAs m φ w xs (l.map (·.val))):
  (∀w' em,(Instr.checkKey em 10000 kt kv).run P w'= .ok () w')∧((r=(dO zv,false)∧∀w',(Instr.findKey kt kv l).run P w'= .ok none w')∨∃j v,r.2=true∧RA m φ w r.1 v∧∀w',(Instr.findKey kt kv l).run P w'= .ok (some (j,v)) w'):=by
 unfold lkG at h
 split at h
 ·rename_i k L hk hL
  have e1:=hd _ _ hk
  subst e1
  have hkeys:l.map (·.key)=L.map kf:=by rw[←kq hd hL,←q2,List.map_map];rfl
  have hf:=λw'=>hK.find k L l w' hkeys
  refine⟨λw' em=>hK.chk em k w',?_⟩
  split at h
  ·rename_i j hj
   split at h
   ·rename_i x hx
    obtain rfl:=inS h
    obtain⟨v,h1,h2⟩:=bv q3 hx
    rw[List.getElem?_map,Option.map_eq_some_iff] at h1
    obtain⟨e,h3,rfl⟩:=h1
    refine .inr ⟨j,e.val,rfl,h2,λw'=>?_⟩
    rw[hf w',hj,bnS,h3,Option.map_some]
   ·cases h
  ·rename_i hj
   obtain rfl:=inS h
   exact .inl ⟨rfl,λw'=>by rw[hf w',hj,Option.bind_none]⟩
 ·cases h
theorem su{kt:TypeId}{es:List (Value×Nat)}{xs:List AV}{zv kv:Value}{r:AV×Bool}(h:lkD P kt es xs zv kv=some r)
  {m φ w}{l:List MapEntry}(q2:l.map (λe=>(e.key,e.born))=es)(q3:RAs m φ w xs (l.map (·.val))):
  (∀w' em,(Instr.checkKey em 10000 kt kv).run P w'= .ok () w')∧((r=(dO zv,false)∧∀w',(Instr.findKey kt kv l).run P w'= .ok none w')∨∃j v,r.2=true∧RA m φ w r.1 v∧∀w',(Instr.findKey kt kv l).run P w'= .ok (some (j,v)) w'):=by
 unfold lkD at h
 split at h
 ·rename_i hk;exact sq (λ_ _=>s8) (pX hk) h q2 q3
 ·rename_i hk;exact sq (λ_ _=>s7) (pW hk) h q2 q3
 ·cases h
theorem wx{T:TypeId}{x ki:Operand}{c:Bool}{r:AV}(h:lkX P env st T x ki c=some r):Yields P env st ⟨dst, .lookup T x ki c,ty,pos,after,guard⟩ r:=λm φ a w hs he=>by
 unfold lkX at h
 split at h
 ·rename_i kt et xr kv hT hx hk
  obtain⟨ka,hk1,hk2⟩:=aX hk
  have hkv:a.eval ki=kv:=pV hk2 (ap he hk1)
  have htu:∀{r0:AV×Bool}{v:Value},RA m φ w r0.1 v→RA m φ w (tuB c r0) (if c then .tuple #[v, .bool r0.2] else v):=λ{r0 v} h9=>by
   cases c with
   |true=>simp only[tuB,cdT,if_true,RA];exact⟨_,rfl,ax h9 (ax RAv aZ)⟩
   |false=>simpa[tuB] using h9
  split at h
  ·rename_i zv id hz
   cases hinf:P.info? et with
   |none=>simp[hinf] at hz
   |some inf=>
    simp only[hinf,bnS] at hz
    split at h
    ·rename_i es xs cl hst
     split at h
     ·rename_i r0 hr0
      obtain rfl:=inS h
      obtain⟨b,h1,h2⟩:=fJ he hx
      obtain⟨b',hbb,h0,l,g1,g2,g3⟩:=hs.obj id _ _ hst h1
      simp only[Cz.blk.injEq] at hbb
      subst hbb
      have hlt:=aY g1
      obtain⟨p1,p2⟩:=su hr0 g2 g3
      rcases p2 with⟨rfl,p2⟩|⟨j,v,p2,p3,p4⟩
      ·refine⟨if c then .tuple #[zv, .bool false] else zv,htu (gd zv),λw' hb=>?_⟩
       have g1':w'.heap[b]? =some (.map ⟨l⟩ cl):=by rw[hb.block b hlt];exact g1
       simp[execOp,Instr.lookup,h2,hkv,run_underlying hT,MapKept.run_getObj_map g1',p1,p2,zeroValue,typeInfo,hinf,hz,Result.andThen]
      ·refine⟨if c then .tuple #[v, .bool true] else v,by have:=htu p3;rw[p2] at this;exact this,λw' hb=>?_⟩
       have g1':w'.heap[b]? =some (.map ⟨l⟩ cl):=by rw[hb.block b hlt];exact g1
       simp[execOp,Instr.lookup,h2,hkv,run_underlying hT,MapKept.run_getObj_map g1',p1,p4,Result.andThen]
     ·cases h
    ·cases h
  ·rename_i zv hz
   cases hinf:P.info? et with
   |none=>simp[hinf] at hz
   |some inf=>
    simp only[hinf,bnS] at hz
    split at h
    ·rename_i r0 hr0
     obtain rfl:=inS h
     have h2:=ao he hx
     obtain⟨p1,p2⟩:=su (m:=m) (φ:=φ) (w:=w) (l:=[]) hr0 rfl aZ
     rcases p2 with⟨rfl,p2⟩|⟨j,v,p2,p3,p4⟩
     ·refine⟨if c then .tuple #[zv, .bool false] else zv,htu (gd zv),λw' hb=>?_⟩
      simp[execOp,Instr.lookup,h2,hkv,run_underlying hT,p1,p2,zeroValue,typeInfo,hinf,hz,Result.andThen]
     ·refine⟨if c then .tuple #[v, .bool true] else v,by have:=htu p3;rw[p2] at this;exact this,λw' hb=>?_⟩
      simp[execOp,Instr.lookup,h2,hkv,run_underlying hT,p1,p4,Result.andThen]
    ·cases h
  ·cases h
 ·cases h
end
theorem uD{m φ w}{st:List AO}{id b cl cl':Nat}{es es':List (Value×Nat)}{xs xs':List AV}{l:List MapEntry}(hs:SR m φ st w)(hi:st[id]? =some (.mb es xs cl))(hb:m[id]? =some (.blk b))(hkeys:l.map (λe=>(e.key,e.born))=es')(hv:RAs m φ w xs' (l.map (·.val))):
  Ev m φ w m φ { w with heap:=w.heap.setIfInBounds b (.map ⟨l⟩ cl') }∧SR m φ (st.set id (.mb es' xs' cl')) { w with heap:=w.heap.setIfInBounds b (.map ⟨l⟩ cl') }:=by
 obtain⟨b',hbb,h0,l0,h1,h2,h3⟩:=hs.obj id _ _ hi hb
 simp only[Cz.blk.injEq] at hbb
 subst hbb
 have hlt:=aY h1
 have hne:∀b2,b2≠b→(w.heap.setIfInBounds b (.map ⟨l⟩ cl'))[b2]? =w.heap[b2]? :=λb2 hn=>by simp[Ne.symm hn]
 have hF:Fz φ w φ { w with heap:=w.heap.setIfInBounds b (.map ⟨l⟩ cl') }:=λb2 off c g1 g2=>⟨g1,by
  have hn:b2≠b:=λe=>by subst e;omega
  rw[aw (w':={ w with heap:=w.heap.setIfInBounds b (.map ⟨l⟩ cl') }) (hne b2 hn)];exact g2⟩
 have hset:m.set id (.blk b)=m:=by
  apply List.ext_getElem?
  intro i
  by_cases hii:id=i
  ·subst hii;rw[List.getElem?_set_self (giS.1 hb).1,hb]
  ·rw[List.getElem?_set_ne hii]
 have:=cT (w':={ w with heap:=w.heap.setIfInBounds b (.map ⟨l⟩ cl') }) (φ':=φ) (o':= .mb es' xs' cl') (c':= .blk b) hs hi rfl hb rfl rfl rfl rfl sM (λb2 hb2 hn=>⟨hne b2 (λe=>hn (by rw[e];rfl)),rfl⟩) hF (λb2 hb2=>hs.lt b2 (by simpa using hb2)) (λb2 hb2=> .inl hb2)
  (by rw[hset];exact⟨b,rfl,h0,l,by simp[hlt],hkeys,RAs.mono (Pre.refl m) hF _ _ hv⟩)
 rwa [hset] at this
section
variable{P:Program}{env:Env}{st:List AO}{dst:Option Tmp}{ty:TypeId}{pos:String}{after:Array Edge}{guard:Option (Nat×Bool)}
theorem sa{κ:Type}[DecidableEq κ]{dk:Value→Option κ}{kf:κ→Value}(hd:∀v k,dk v=some k→v=kf k){T kt et:TypeId}(hK:KeyX P kt kf)(hT:P.underlying T=some (.map kt et)){es:List (Value×Nat)}{xs:List AV}{cl:Nat}{kv:Value}{uu:AV}{o':AO}
  (h:muG dk es xs cl kv uu=some o'){m φ w}{b:Nat}{val:Value}{l:List MapEntry}(hb:w.heap[b]? =some (.map ⟨l⟩ cl))(q2:l.map (λe=>(e.key,e.born))=es)(q3:RAs m φ w xs (l.map (·.val)))(hu:RA m φ w uu val):
  ∃l' cl' es' xs',o'= .mb es' xs' cl'∧(Instr.mapUpdate T (.map (some b)) kv val).run P w= .ok () { w with heap:=w.heap.setIfInBounds b (.map ⟨l'⟩ cl') }∧l'.map (λe=>(e.key,e.born))=es'∧RAs m φ w xs' (l'.map (·.val)):=by
 unfold muG at h
 split at h
 ·rename_i k L hk hL
  have e1:=hd _ _ hk
  subst e1
  have hkeys:l.map (·.key)=L.map kf:=by rw[←kq hd hL,←q2,List.map_map];rfl
  have hf:=hK.find k L l w hkeys
  split at h
  ·rename_i j hj
   obtain rfl:=inS h
   have hLj:=pY hj
   have hlj:(l.map (·.key))[j]? =some (kf k):=by rw[hkeys,List.getElem?_map,hLj];rfl
   rw[List.getElem?_map,Option.map_eq_some_iff] at hlj
   obtain⟨e,he,hek⟩:=hlj
   rw[hj,bnS,he,Option.map_some] at hf
   refine⟨l.modify j (λe'=>{ e' with key:=kf k,val:=val }),cl,es,_,rfl,?_,?_,?_⟩
   ·simp[Instr.mapUpdate,run_underlying hT,MapKept.run_getObj_map hb,hK.chk,hf,he,hek,hK.stays,MapKept.run_setObj_map _ hb,Result.andThen]
   ·rw[←q2]
    apply List.ext_getElem?
    intro i
    rw[List.getElem?_map,List.getElem?_map,List.getElem?_modify]
    by_cases hij:j=i
    ·subst hij;simp[he,hek]
    ·simp[hij]
   ·have:(l.modify j (λe'=>{ e' with key:=kf k,val:=val })).map (·.val)=(l.map (·.val)).set j val:=by
     apply List.ext_getElem?
     intro i
     rw[List.getElem?_map,List.getElem?_modify,List.getElem?_set]
     by_cases hij:j=i
     ·subst hij;simp[he,(giS.1 he).1]
     ·simp[hij]
    rw[this]
    exact iJ q3 hu
  ·rename_i hj
   obtain rfl:=inS h
   rw[hj,Option.bind_none] at hf
   refine⟨l++ [⟨kf k,val,cl⟩],cl+1,_,_,rfl,?_,by simp[q2],by rw[List.map_append];exact aj q3 (ax hu aZ)⟩
   simp[Instr.mapUpdate,run_underlying hT,MapKept.run_getObj_map hb,hK.chk,hf,MapKept.run_setObj_map _ hb,Result.andThen]
 ·cases h
theorem r8{T:TypeId}{x ki v:Operand}{o:Oper}{r:AV}{st':List AO}(ho:o=⟨dst, .insert T x ki v,ty,pos,after,guard⟩∨o=⟨dst, .mapUpdate T x ki v,ty,pos,after,guard⟩)(h:muX P env st T x ki v=some (r,st')):Does P env st o r st':=λm φ a w hs he=>by
 unfold muX at h
 split at h
 ·rename_i kt et id kv uu hT hx hk hv
  obtain⟨ka,hk1,hk2⟩:=aX hk
  have hkv:a.eval ki=kv:=pV hk2 (ap he hk1)
  split at h
  ·rename_i es xs cl hst
   obtain⟨b,h1,h2⟩:=fJ he hx
   obtain⟨b',hbb,h0,l,g1,g2,g3⟩:=hs.obj id _ _ hst h1
   simp only[Cz.blk.injEq] at hbb
   subst hbb
   have hu:=ap he hv
   split at h
   ·rename_i o' ho'
    simp only[af,Prod.mk.injEq] at h
    obtain⟨rfl,rfl⟩:=h
    have key:∃l' cl' es' xs',o'= .mb es' xs' cl'∧(Instr.mapUpdate T (.map (some b)) kv (a.eval v)).run P w= .ok () { w with heap:=w.heap.setIfInBounds b (.map ⟨l'⟩ cl') }∧l'.map (λe=>(e.key,e.born))=es'∧RAs m φ w xs' (l'.map (·.val)):=by
     split at ho'
     ·rename_i hd;exact sa (λ_ _=>s8) (pX hd) hT ho' g1 g2 g3 hu
     ·rename_i hd;exact sa (λ_ _=>s7) (pW hd) hT ho' g1 g2 g3 hu
     ·cases ho'
    obtain⟨l',cl',es',xs',rfl,k1,k2,k3⟩:=key
    obtain⟨p1,p2⟩:=uD (cl':=cl') hs hst h1 k2 k3
    refine⟨undef,_,m,φ, .inr ⟨?_,rfl⟩,p1,p2,RAv⟩
    rcases ho with rfl|rfl<;>simp[execOp,h2,hkv,k1]
   ·cases h
  ·cases h
 ·cases h
theorem sc{T:TypeId}:DoesB P env st ⟨dst, .makeMap T none,ty,pos,after,guard⟩ (.mp st.length) (st++ [.mb [] [] 0]):=λm φ a w hs he=>by
 have hF:=Fz.alloc hs (.map #[] 0)
 have hk:∀b,b<w.heap.size→(w.alloc (.map #[] 0)).heap[b]? =w.heap[b]? :=λb hb=>aH hb
 have hnew:∀b,(Cz.blk w.heap.size).has b→w.heap.size≤b:=λb hb=>by simp only[Cz.has] at hb;omega
 refine⟨.map (some w.heap.size),w.alloc (.map #[] 0),m++ [.blk w.heap.size],φ,rfl,Ev.push hs hF hk sM rfl rfl rfl hnew,SR.push hs hF hk sM ?_ hnew,?_,(Below.refl _ _).alloc (Nat.le_refl _) _⟩
 ·exact⟨w.heap.size,rfl,hs.lt _ (Nat.le_refl _),[],heap_alloc_new w _,rfl,aZ⟩
 ·simp only[RA];exact⟨_,by rw[←hs.len];simp,rfl⟩
theorem wa{T:TypeId}{x:Operand}{r:AV}{st':List AO}(h:rgX P env st T x=some (r,st')):Does P env st ⟨dst, .range T x,ty,pos,after,guard⟩ r st':=λm φ a w hs he=>by
 have hnew:∀b,(Cz.blk w.heap.size).has b→w.heap.size≤b:=λb hb=>by simp only[Cz.has] at hb;omega
 unfold rgX at h
 split at h
 ·rename_i kt et id hT hx
  split at h
  ·rename_i es xs cl hst
   simp only[af,Prod.mk.injEq] at h
   obtain⟨rfl,rfl⟩:=h
   have hra:=ap he hx
   obtain⟨b,h1,h2⟩:=fJ he hx
   obtain⟨b',hbb,h0,l,g1,g2,g3⟩:=hs.obj id _ _ hst h1
   simp only[Cz.blk.injEq] at hbb
   subst hbb
   have hF:=Fz.alloc hs (.mapIter (some b) cl #[] cl)
   have hk:∀c,c<w.heap.size→(w.alloc (.mapIter (some b) cl #[] cl)).heap[c]? =w.heap[c]? :=λc hc=>aH hc
   rw[h2] at hra
   refine⟨.pointer (some ⟨w.heap.size,0,none⟩),w.alloc (.mapIter (some b) cl #[] cl),m++ [.blk w.heap.size],φ, .inl ?_,Ev.push hs hF hk sM rfl rfl rfl hnew,SR.push hs hF hk sM ⟨_,rfl,hs.lt _ (Nat.le_refl _),some b,heap_alloc_new w _,RA.mono (Pre.append m _) hF _ _ hra⟩ hnew,?_⟩
   ·simp[execOp,h2,Instr.range,run_underlying hT,MapKept.run_getObj_map g1]
   ·simp only[RA];exact⟨_,by rw[←hs.len];simp,rfl⟩
  ·cases h
 ·rename_i kt et hT hx
  simp only[af,Prod.mk.injEq] at h
  obtain⟨rfl,rfl⟩:=h
  have h2:=ao he hx
  have hF:=Fz.alloc hs (.mapIter none 0 #[] 0)
  have hk:∀c,c<w.heap.size→(w.alloc (.mapIter none 0 #[] 0)).heap[c]? =w.heap[c]? :=λc hc=>aH hc
  refine⟨.pointer (some ⟨w.heap.size,0,none⟩),w.alloc (.mapIter none 0 #[] 0),m++ [.blk w.heap.size],φ, .inl ?_,Ev.push hs hF hk sM rfl rfl rfl hnew,SR.push hs hF hk sM ⟨_,rfl,hs.lt _ (Nat.le_refl _),none,heap_alloc_new w _,RAv⟩ hnew,?_⟩
  ·simp[execOp,h2,Instr.range,run_underlying hT]
  ·simp only[RA];exact⟨_,by rw[←hs.len];simp,rfl⟩
 ·cases h
theorem kI{s:Nat}:∀{es:List (Value×Nat)}{l:List MapEntry}{j:Nat},l.map (λe=>(e.key,e.born))=es→qm es s=some j→∃e,l[j]? =some e∧l.find? (·.born==s)=some e
 |[],l,j,_,h=>by cases h
 |p::es,[],j,hl,h=>by simp at hl
 |p::es,e::l,j,hl,h=>by
  simp only[List.map_cons,List.cons.injEq] at hl
  obtain⟨rfl,hl⟩:=hl
  unfold qm at h
  cases hb:Nat.beq e.born s with
  |true=>
   rw[hb] at h
   obtain rfl:=inS h
   refine⟨e,rfl,?_⟩
   have:=nbE hb
   rw[List.find?_cons_of_pos (by simp[this])]
  |false=>
   rw[hb,cdF] at h
   split at h
   ·rename_i i hi
    obtain rfl:=inS h
    obtain⟨e',h1,h2⟩:=kI hl hi
    refine⟨e',by simpa using h1,?_⟩
    rw[List.find?_cons_of_neg (by intro hh;rw[beq_iff_eq] at hh;rw[hh] at hb;simp at hb)]
    exact h2
   ·cases h
theorem wW{x:Operand}{r:AV}(h:enX env st x=some r):Yields P env st ⟨dst, .entry x,ty,pos,after,guard⟩ r:=λm φ a w hs he=>by
 unfold enX at h
 split at h
 ·rename_i iid hx
  split at h
  ·rename_i id since seen stp hit
   split at h
   ·rename_i s es xs cl hseen hmb
    cases hc:Nat.beq cl stp with
    |false=>rw[hc] at h;cases h
    |true=>
     rw[hc,cdT] at h
     have hc:=nbE hc
     subst hc
     split at h
     ·rename_i j hj
      split at h
      ·rename_i p r0 hp hr0
       obtain rfl:=inS h
       obtain⟨b,g1,g2⟩:=dY he hx
       obtain⟨b',hbb,h0,sb,g3,g4⟩:=hs.obj iid _ _ hit g1
       simp only[Cz.blk.injEq] at hbb
       subst hbb
       simp only[RA] at g4
       obtain⟨mb,g5,g6⟩:=g4
       simp only[Value.map.injEq] at g6
       subst g6
       obtain⟨b2,hb2,q0,l,q1,q2,q3⟩:=hs.obj id _ _ hmb g5
       simp only[Cz.blk.injEq] at hb2
       subst hb2
       obtain⟨e,k1,k2⟩:=kI q2 hj
       have hpe:p=(e.key,e.born):=by
        have:(l.map (λe=>(e.key,e.born)))[j]? =some (e.key,e.born):=by rw[List.getElem?_map,k1];rfl
        rw[q2,hp] at this
        exact inS this
       subst hpe
       obtain⟨v,v1,v2⟩:=bv q3 hr0
       rw[List.getElem?_map,k1,Option.map_some,af] at v1
       subst v1
       refine⟨.tuple #[e.key,e.val],by simp only[RA];exact⟨_,rfl,ax (gd _) (ax v2 aZ)⟩,λw' hb=>?_⟩
       have e1:w'.heap[b]? =some (.mapIter (some mb) since ⟨seen⟩ cl):=by rw[hb.block b (aY g3)];exact g3
       have e2:w'.heap[mb]? =some (.map ⟨l⟩ cl):=by rw[hb.block mb (aY q1)];exact q1
       have f1:(getObj b).run P w'= .ok (.mapIter (some mb) since ⟨seen⟩ cl) w':=by simp[getObj,Sem.run,e1]
       have f2:(getObj mb).run P w'= .ok (.map ⟨l⟩ cl) w':=by simp[getObj,Sem.run,e2]
       have f3:(⟨seen⟩:Array Nat).back? =some s:=by rw[←hseen];simp[Array.back?,List.getLast?_eq_getElem?]
       have f4:(⟨l⟩:Array MapEntry).find? (·.born==s)=some e:=by rw[←Array.find?_toList];exact k2
       simp[execOp,g2,Instr.entry,f1,f2,f3,f4]
      ·cases h
     ·cases h
   ·cases h
  ·cases h
 ·cases h
def qH(P:Program)(env:Env)(st:List AO)(o:Oper)(outs:List (AV×List AO)):Prop:=
 ∀m φ a w,SR m φ st w→EnvOk m φ w env a→∃v w' m' φ' p,p∈outs∧(execOp a.eval o).run P w= .ok (.value v) w'∧Ev m φ w m' φ' w'∧SR m' φ' p.2 w'∧RA m' φ' w' p.1 v
theorem WL.sN{e:En}{ops:Array Oper}{rest:List Oper}{o:Oper}{d:Nat}{R:Env→List AO→Prop}{outs:List (AV×List AO)}(hy:qH P env st o outs)(hw:Wt ops env o true)(ho:o.dst=some d)(hd:Nat.ble (d+1) e.n=true)(h:∀p∈outs,WL P e ops rest ((d,p.1)::env) p.2 R):WL P e ops (o::rest) env st R:=λm φ a w hi=>by
 obtain⟨v,w',m',φ',p,h0,h1,h2,h3,h4⟩:=hy m φ a w hi.sr hi.env
 have hi':=hi.ev_put (d:=d) h2 h3 (nbT hd) h4
 unfold dI
 rw[if_pos (hw _ _ _ _ hi.env)]
 refine .inl ?_
 simp only[Oper.wp,h1,Oper.upon,ho]
 exact h p h0 m' φ' _ w' hi'
theorem SR.drew{m:List Cz}{φ:Nat→Nat}{w:World}(hs:SR m φ st w):SR m φ st w.drew:=hs.of_keep (λ_ _=>⟨rfl,rfl⟩) (λ_ _ _ h1 h2=>⟨h1,h2⟩) hs.lt
theorem itSet{m φ w}{iid b since stp stp':Nat}{seen seen':List Nat}{src:AV}{sb:Option Nat}(hs:SR m φ st w)(hi:st[iid]? =some (.it src since seen stp))(hb:m[iid]? =some (.blk b))(hsrc:RA m φ w src (.map sb)):
  Ev m φ w m φ { w with heap:=w.heap.setIfInBounds b (.mapIter sb since ⟨seen'⟩ stp') }∧SR m φ (st.set iid (.it src since seen' stp')) { w with heap:=w.heap.setIfInBounds b (.mapIter sb since ⟨seen'⟩ stp') }:=by
 obtain⟨b',hbb,h0,sb0,h1,h2⟩:=hs.obj iid _ _ hi hb
 simp only[Cz.blk.injEq] at hbb
 subst hbb
 have hlt:=aY h1
 have hne:∀b2,b2≠b→(w.heap.setIfInBounds b (.mapIter sb since ⟨seen'⟩ stp'))[b2]? =w.heap[b2]? :=λb2 hn=>by simp[Ne.symm hn]
 have hF:Fz φ w φ { w with heap:=w.heap.setIfInBounds b (.mapIter sb since ⟨seen'⟩ stp') }:=λb2 off c g1 g2=>⟨g1,by
  have hn:b2≠b:=λe=>by subst e;omega
  rw[aw (w':={ w with heap:=w.heap.setIfInBounds b (.mapIter sb since ⟨seen'⟩ stp') }) (hne b2 hn)];exact g2⟩
 have hset:m.set iid (.blk b)=m:=by
  apply List.ext_getElem?
  intro i
  by_cases hii:iid=i
  ·subst hii;rw[List.getElem?_set_self (giS.1 hb).1,hb]
  ·rw[List.getElem?_set_ne hii]
 have:=cT (w':={ w with heap:=w.heap.setIfInBounds b (.mapIter sb since ⟨seen'⟩ stp') }) (φ':=φ) (o':= .it src since seen' stp') (c':= .blk b) hs hi rfl hb rfl rfl rfl rfl sM (λb2 hb2 hn=>⟨hne b2 (λe=>hn (by rw[e];rfl)),rfl⟩) hF (λb2 hb2=>hs.lt b2 (by simpa using hb2)) (λb2 hb2=> .inl hb2)
  (by rw[hset];exact⟨b,rfl,h0,sb,by simp[hlt],RA.mono (Pre.refl m) hF _ _ hsrc⟩)
 rwa [hset] at this
theorem oS{w:World}{n:Nat}(hn:0<n):∃j w1,j<n∧(w1=w∨w1=w.drew)∧(choose (.mapNext n)).run P w= .ok j w1:=by
 by_cases hf:n≤1
 ·exact⟨0,w,oM, .inl rfl,by simp[choose,Sem.run,Question.forced,hf]⟩
 ·exact⟨_,w.drew,Nat.mod_lt _ oM, .inr rfl,by
   simp only[choose,Sem.run,Question.forced,decide_eq_true_eq,hf,if_false,Question.cut]
   rfl⟩
theorem nx_ok{x:Operand}{iid id since stp cl:Nat}{seen:List Nat}{es:List (Value×Nat)}{xs:List AV}(hx:opv env x=some (.pt iid 0))(hit:st[iid]? =some (.it (.mp id) since seen stp))(hmb:st[id]? =some (.mb es xs cl))
  (ht:(!seen.isEmpty&&(!es.isEmpty&&es.all λp=>Nat.ble stp p.2))=false):qH P env st ⟨dst, .next x false,ty,pos,after,guard⟩ (kh iid id since stp cl seen es xs st):=λm φ a w hs he=>by
 obtain⟨b,g1,g2⟩:=dY he hx
 obtain⟨b',hbb,h0,sb,g3,g4⟩:=hs.obj iid _ _ hit g1
 simp only[Cz.blk.injEq] at hbb
 subst hbb
 have g4':=g4
 simp only[RA] at g4
 obtain⟨mb,g5,g6⟩:=g4
 simp only[Value.map.injEq] at g6
 subst g6
 obtain⟨b2,hb2,q0,l,q1,q2,q3⟩:=hs.obj id _ _ hmb g5
 simp only[Cz.blk.injEq] at hb2
 subst hb2
 have f1:(getObj b).run P w= .ok (.mapIter (some mb) since ⟨seen⟩ stp) w:=by simp[getObj,Sem.run,g3]
 have f2:(getObj mb).run P w= .ok (.map ⟨l⟩ cl) w:=by simp[getObj,Sem.run,q1]
 have f3:(!(⟨seen⟩:Array Nat).isEmpty&& !(⟨l⟩:Array MapEntry).isEmpty&&(⟨l⟩:Array MapEntry).all (λx=>decide (x.born≥stp)))=false:=by
  rw[←q2] at ht
  rw[←ht]
  have hb:∀e:MapEntry,decide (e.born≥stp)=Nat.ble stp e.born:=λe=>by rw[Bool.eq_iff_iff];simp[Nat.ble_eq]
  simp[List.all_map,Bool.and_assoc,Function.comp_def,hb]
 -- what is left
 have hlen:es.length=l.length:=by rw[←q2,List.length_map]
 have hout:∀e∈l,seen.contains e.born=false→∃r,RA m φ w r e.val∧(AV.tu [.d (.v (.bool true)),dO e.key,r],st.set iid (.it (.mp id) since (seen++ [e.born]) cl))∈kh iid id since stp cl seen es xs st:=λe he hse=>by
  obtain⟨j,hj⟩:=List.mem_iff_getElem?.1 he
  have hxl:xs.length=l.length:=by have:=ak q3;rw[List.length_map] at this;exact this.symm
  have hjl:j<xs.length:=by rw[hxl];exact(giS.1 hj).1
  have hx0:xs[j]? =some xs[j]:=geG hjl
  obtain⟨v,v1,v2⟩:=bv q3 hx0
  rw[List.getElem?_map,hj,Option.map_some,af] at v1
  subst v1
  refine⟨xs[j],v2,List.mem_append_right _ (List.mem_filterMap.2 ⟨((e.key,e.born),xs[j]),?_,by rw[hse];rfl⟩)⟩
  refine List.mem_iff_getElem?.2 ⟨j,?_⟩
  rw[List.getElem?_zip_eq_some]
  exact⟨by rw[←q2,List.getElem?_map,hj];rfl,hx0⟩
 have hover:(∀e∈l,seen.contains e.born=false→¬e.born<since)→(AV.tu [.d (.v (.bool false))],st)∈kh iid id since stp cl seen es xs st:=λh=>by
  have:es.all (λp=>seen.contains p.2|| !(Nat.blt p.2 since))=true:=by
   rw[←q2,List.all_map,List.all_eq_true]
   intro e he
   show(seen.contains e.born|| !(Nat.blt e.born since))=true
   cases hse:seen.contains e.born with
   |true=>rfl
   |false=>
    have h1:=h e he hse
    cases hb:Nat.blt e.born since with
    |false=>rfl
    |true=>exact absurd (by simpa[Nat.blt_eq] using hb) h1
  unfold kh
  rw[this]
  simp
 have hrun:(execOp a.eval ⟨dst, .next x false,ty,pos,after,guard⟩).run P w=(((Instr.next (.pointer (some ⟨b,0,none⟩)) false ty).run P w).andThen λv w'=> .ok (.value v) w'):=by
  simp[execOp,g2]
 rw[hrun]
 simp only[Instr.next,Sem.run_bind,f1,f2,Result.andThen_ok,f3,Bool.false_eq_true,if_false]
 generalize hL:Array.filter (λe:MapEntry=> !(⟨seen⟩:Array Nat).contains e.born) ⟨l⟩=L
 have hLm:∀e:MapEntry,e∈L↔e∈l∧seen.contains e.born=false:=λe=>by
  rw[←hL,Array.mem_filter]
  simp
 generalize hC:((if(Array.filter (λx:MapEntry=>decide (x.born<since)) L).isEmpty=true then #[none] else #[])++Array.map some (Array.filter (λx:MapEntry=>decide (x.born<since)) L++Array.filter (λx:MapEntry=>decide (x.born≥since)) L):Array (Option MapEntry))=C
 have hsome:∀e:MapEntry,some e∈C→e∈L:=λe he=>by
  rw[←hC] at he
  rcases Array.mem_append.1 he with he|he
  ·split at he<;>simp at he
  ·obtain⟨e',h1,h2⟩:=Array.mem_map.1 he
   obtain rfl:=inS h2
   rcases Array.mem_append.1 h1 with h1|h1<;>exact(Array.mem_filter.1 h1).1
 have hnone:none∈C→∀e∈L,¬e.born<since:=λhe e hel hlt=>by
  rw[←hC] at he
  rcases Array.mem_append.1 he with he|he
  ·split at he
   ·rename_i hemp
    have:e∈Array.filter (λx:MapEntry=>decide (x.born<since)) L:=Array.mem_filter.2 ⟨hel,dcT hlt⟩
    rw[Array.isEmpty_iff.1 hemp] at this
    simp at this
   ·simp at he
  ·obtain⟨e',_,h2⟩:=Array.mem_map.1 he
   cases h2
 have hpos:0<C.size:=by
  rw[←hC,Array.size_append,Array.size_map,Array.size_append]
  split
  ·simp;omega
  ·rename_i hemp
   have:(Array.filter (λx:MapEntry=>decide (x.born<since)) L).size≠0:=λh0=>hemp (by rw[Array.eq_empty_of_size_eq_zero h0];rfl)
   omega
 obtain⟨j,w1,hj,hal,hrun1⟩:=oS (P:=P) (w:=w) hpos
 have hget:C[j]? =some C[j]:=Array.getElem?_eq_getElem hj
 have hmem:C[j]∈C:=Array.getElem_mem hj
 have hs1:SR m φ st w1:=by rcases hal with rfl|rfl;exact hs;exact hs.drew
 have hev1:∀{w2:World},Ev m φ w1 m φ w2→Ev m φ w m φ w2:=λ{w2} k=>by
  rcases hal with rfl|rfl
  ·exact k
  ·exact⟨k.pre,k.new,k.os,k.tape,k.output,k.size,k.keep,k.fz⟩
 simp only[hrun1,Result.andThen_ok,hget]
 cases hcj:C[j] with
 |none=>
  rw[hcj] at hmem
  exact⟨.tuple #[.bool false],w1,m,φ,_,hover (λe he hse=>hnone hmem e ((hLm e).2 ⟨he,hse⟩)),sM,hev1 (Ev.refl m φ w1),hs1,by simp[RA,RAs,RD]⟩
 |some e=>
  rw[hcj] at hmem
  obtain⟨hel,hes⟩:=(hLm e).1 (hsome e hmem)
  obtain⟨r,hr1,hr2⟩:=hout e hel hes
  obtain⟨k1,k2⟩:=itSet (seen':=seen++ [e.born]) (stp':=cl) hs1 hit g1 g4'
  have hb1:w1.heap[b]? =some (.mapIter (some mb) since ⟨seen⟩ stp):=by rcases hal with rfl|rfl<;>exact g3
  have hset:(setObj b (Obj.mapIter (some mb) since ((⟨seen⟩:Array Nat).push e.born) cl)).run P w1= .ok () { w1 with heap:=w1.heap.setIfInBounds b (.mapIter (some mb) since ⟨seen++ [e.born]⟩ cl) }:=by
   simp[setObj,Sem.run,hb1]
  refine⟨.tuple #[.bool true,e.key,e.val],_,m,φ,_,hr2,?_,hev1 k1,k2,?_⟩
  ·simp only[Sem.run_bind,hset,Result.andThen_ok,Sem.run_pure]
  ·have h1:=RA.mono (hev1 k1).pre (hev1 k1).fz _ _ hr1
   simp only[RA]
   exact⟨_,rfl,ax RAv (ax (gd _) (ax h1 aZ))⟩
theorem wm{x:Operand}{iid since stp:Nat}{seen:List Nat}(hx:opv env x=some (.pt iid 0))(hit:st[iid]? =some (.it (.d (.v (.map none))) since seen stp)):qH P env st ⟨dst, .next x false,ty,pos,after,guard⟩ [(.tu [.d (.v (.bool false))],st)]:=λm φ a w hs he=>by
 obtain⟨b,g1,g2⟩:=dY he hx
 obtain⟨b',hbb,h0,sb,g3,g4⟩:=hs.obj iid _ _ hit g1
 simp only[Cz.blk.injEq] at hbb
 subst hbb
 simp only[RA,RD,Value.map.injEq] at g4
 subst g4
 have f1:(getObj b).run P w= .ok (.mapIter none since ⟨seen⟩ stp) w:=by simp[getObj,Sem.run,g3]
 refine⟨.tuple #[.bool false],w,m,φ,_,List.mem_singleton.2 rfl,?_,Ev.refl m φ w,hs,by simp[RA,RAs,RD]⟩
 simp[execOp,g2,Instr.next,f1]
end
def byV:List (List AV)→Option (List UInt8)
 |[]=>some []
 |[.d (.v (.int .u8 n))]::l=>bif decide (0≤n)&&decide (n<256) then(match byV l with
  |some bs=>some (UInt8.ofNat n.toNat::bs)
  |none=>none) else none
 |_=>none
theorem th:∀{es:List (List AV)}{bs:List UInt8},byV es=some bs→es.flatten=(bs.map λb=>Value.int .u8 (b.toNat:Int)).map (λv=>AV.d (D.v v))∧bs.length=es.length
 |[],bs,h=>by obtain rfl:=inS h;exact⟨rfl,rfl⟩
 |e::l,bs,h=>by
  unfold byV at h
  split at h
  ·rename_i h0;cases h0
  ·rename_i n l' h0
   obtain⟨rfl,rfl⟩:=List.cons.inj h0
   cases hb:decide (0≤n)&&decide (n<256) with
   |false=>rw[hb] at h;cases h
   |true=>
    rw[hb,cdT] at h
    rw[Bool.and_eq_true] at hb
    have h1:=of_decide_eq_true hb.1
    have h2:=of_decide_eq_true hb.2
    split at h
    ·rename_i bs' hbs
     obtain rfl:=inS h
     obtain⟨k1,k2⟩:=th hbs
     refine⟨?_,by simp[k2]⟩
     have:((UInt8.ofNat n.toNat).toNat:Int)=n:=by
      rw[UInt8.toNat_ofNat']
      omega
     simp only[List.flatten_cons,List.map_cons,this,k1]
     rfl
    ·cases h
  ·cases h
theorem vI{m φ w}:∀{vs ys:List Value},RAs m φ w (vs.map λv=>AV.d (D.v v)) ys→ys=vs
 |[],ys,h=>by simpa[RAs] using h
 |v::vs,ys,h=>by
  simp only[List.map_cons,RAs] at h
  obtain⟨c,cs,rfl,h1,h2⟩:=h
  simp only[RA,RD] at h1
  rw[h1,vI h2]
section
variable{P:Program}{env:Env}{st:List AO}{dst:Option Tmp}{ty:TypeId}{pos:String}{after:Array Edge}{guard:Option (Nat×Bool)}
theorem y_b2s{S T e:TypeId}{x:Operand}{id ver Te k:Nat}{es:List (List AV)}{bs:List UInt8}(hS:P.underlying S=some (.slice e))(he8:P.underlying e=some (.int .u8))(hT:P.underlying T=some .string)(hx:opv env x=some (.os id ver))(hi:st[id]? =some (.os Te k ver es))(hb:byV es=some bs):
  Yields P env st ⟨dst, .convert S T x,ty,pos,after,guard⟩ (.d (.v (.string ⟨bs.toArray⟩))):=λm φ a w hs he=>by
 obtain⟨y,xs,h1,h2,h3,h4,h5,h6⟩:=gT hs he hx hi
 obtain⟨k1,k2⟩:=th hb
 rw[k1] at h4
 have hxs:=vI h4
 subst hxs
 refine⟨.string ⟨bs.toArray⟩,RAv,λw' hbl=>?_⟩
 rcases h3.2 with⟨rfl,hn⟩|⟨g,cap,cur,rfl,_,hg,_⟩
 ·have:bs=[]:=List.eq_nil_of_length_eq_zero (by rw[k2];exact hn)
  subst this
  have:=run_convert_bytes_string (P:=P) w' S T e none 0 0 hS he8 hT
  simp[execOp,h2,this,Conv.bytesToString]
  rfl
 ·rw[←k2] at h3 h2
  have hc:∀j (hj:j<bs.length),w'.cell? ((⟨g,0,none⟩:Addr).add j)=some (.int .u8 (bs[j].toNat:Int)):=λj hj=>by
   have:=bC h3 (j:=j) (u:= .int .u8 (bs[j].toNat:Int)) (by simp[geG hj])
   rw[bL]
   rw[aw (hbl.block g (aY hg))]
   simpa using this
  have:=run_convert_bytes_back (P:=P) w' S T e ⟨g,0,none⟩ cap bs hS he8 hT hc
  simp[execOp,h2,this]
theorem rC{T kt et:TypeId}{x:Operand}{id cl:Nat}{es:List (Value×Nat)}{xs:List AV}{c:Call}(hT:P.underlying T=some (.map kt et))(hc:c=⟨.builtin .len, #[x], #[T]⟩)(hx:opv env x=some (.mp id))(hi:st[id]? =some (.mb es xs cl)):
  Yields P env st ⟨dst, .call c,ty,pos,after,guard⟩ (.d (.v (.int .i64 es.length))):=λm φ a w hs he=>by
 obtain⟨b,h1,h2⟩:=fJ he hx
 obtain⟨b',hbb,h0,l,g1,g2,g3⟩:=hs.obj id _ _ hi h1
 simp only[Cz.blk.injEq] at hbb
 subst hbb
 have hlen:es.length=l.length:=by rw[←g2,List.length_map]
 refine⟨_,RAv,λw' hb=>?_⟩
 subst hc
 have e1:w'.heap[b]? =some (.map ⟨l⟩ cl):=by rw[hb.block b (aY g1)];exact g1
 have f1:(getObj b).run P w'= .ok (.map ⟨l⟩ cl) w':=by simp[getObj,Sem.run,e1]
 simp[execOp,resolve,invoke,builtin,Builtin.len_,h2,run_underlying hT,f1,goInt,hlen]
end
theorem bK{α:Type}{c:Bool}{a:Option α}{r:α}(h:(bif c then a else none)=some r):c=true∧a=some r:=by
 cases c
 ·cases h
 ·exact⟨rfl,h⟩
theorem bifN{α:Type}{c:Bool}{a:Option α}{r:α}(h:(bif c then none else a)=some r):c=false∧a=some r:=by
 cases c
 ·exact⟨rfl,h⟩
 ·cases h
def cx{α:Type}{β:Type}:List α→(List α→β)→β
 |[],k=>k []
 |x::l,k=>cx l λl'=>k (x::l')
theorem ct{α:Type}{β:Type}:∀{l:List α}{k:List α→β},cx l k=k l
 |[],_=>rfl
 |x::l,k=>by unfold cx;rw[ct]
def jc:AV→Option (IntKind×Int)
 | .d (.v (.int k i))=>some (k,i)
 |_=>none
theorem cF{x:AV}{k:IntKind}{i:Int}(h:jc x=some (k,i)):x= .d (.v (.int k i)):=by
 unfold jc at h
 split at h
 ·simp only[af,Prod.mk.injEq] at h
  rw[h.1,h.2]
 ·cases h
def osA(st:List AO)(id ver:Nat):Option (Nat×Nat×List (List AV)):=match st[id]? with
 |some (.os T k v es)=>bif Nat.beq v ver then some (T,k,es) else none
 |_=>none
theorem de{st:List AO}{id ver T k:Nat}{es:List (List AV)}(h:osA st id ver=some (T,k,es)):st[id]? =some (.os T k ver es):=by
 unfold osA at h
 split at h
 ·rename_i T' k' v es' hs
  cases hb:Nat.beq v ver with
  |false=>rw[hb] at h;cases h
  |true=>
   rw[hb] at h
   simp only[cdT,af,Prod.mk.injEq] at h
   obtain⟨rfl,rfl,rfl⟩:=h
   rw[hs,nbE hb]
 ·cases h
def ixS(P:Program)(st:List AO)(T:Nat)(xr:AV)(i:Int):Option AV:=
 match al P T with
 |some (n,_)=>bif decide (0≤i) then(match xr with
  | .d (.sl es)=>(match es[i.toNat]? with
   |some cs=>bif Nat.beq cs.length n then some (.d (.pc cs)) else none
   |none=>none)
  | .os id ver=>(match osA st id ver with
   |some (_,_,es)=>bif decide (i<es.length) then some (.pe id ver (i.toNat*n)) else none
   |none=>none)
  |_=>none) else none
 |none=>none
def sn(P:Program)(st:List AO)(T:Nat):AV→Option AV
 | .pe id ver off=>match osA st id ver with
  |some (_,_,es)=>(match aE P T,aI P T with
   |some false,_=>es.flatten[off]?
   |some true,some n=>bif decide (off+n≤es.flatten.length) then some (.ag ((es.flatten.drop off).take n)) else none
   |_,_=>none)
  |none=>none
 |_=>none
def faX(P:Program)(st:List AO)(S i:Nat):AV→Option AV
 | .pe id ver off=>match osA st id ver,bY P S i with
  |some _,some (fo,_+1,_)=>some (.pe id ver (off+fo))
  |_,_=>none
 |_=>none
def ncX(st:List AO):AV→Option AV
 | .pe id ver off=>match osA st id ver with
  |some _=>some (.pe id ver off)
  |none=>none
 |_=>none
def lenX(P:Program)(st:List AO)(T:Nat):AV→Option AV
 | .d (.sl es)=>match al P T with
  |some _=>some (.d (.v (.int .i64 es.length)))
  |none=>none
 | .os id ver=>match al P T,osA st id ver with
  |some _,some (_,_,es)=>some (.d (.v (.int .i64 es.length)))
  |_,_=>none
 | .d (.v (.string s))=>match P.underlying T with
  |some .string=>some (.d (.v (.int .i64 s.size)))
  |_=>none
 | .d (.v (.slice none 0 0))=>match al P T with
  |some _=>some (.d (.v (.int .i64 0)))
  |none=>none
 | .mp id=>match P.underlying T,st[id]? with
  |some (.map _ _),some (.mb es _ _)=>some (.d (.v (.int .i64 es.length)))
  |_,_=>none
 |_=>none
def bitX(k:IntKind)(p q:Int):BinOp→Option AV
 | .and=>some (.d (.v (.int k (k.wrap (BitVec.ofInt k.bits p&&&BitVec.ofInt k.bits q).toNat))))
 | .or=>some (.d (.v (.int k (k.wrap (BitVec.ofInt k.bits p|||BitVec.ofInt k.bits q).toNat))))
 | .xor=>some (.d (.v (.int k (k.wrap (BitVec.ofInt k.bits p^^^BitVec.ofInt k.bits q).toNat))))
 | .quo=>bif decide (q=0) then none else some (.d (.v (.int k (k.wrap (p.tdiv q)))))
 | .rem=>bif decide (q=0) then none else some (.d (.v (.int k (p.tmod q))))
 |_=>none
def shX(k:IntKind)(p q:Int):BinOp→Option AV
 | .shr=>bif decide (0≤q) then some (.d (.v (.int k (p.fdiv (2^min q.toNat k.bits))))) else none
 | .shl=>bif decide (0≤q) then some (.d (.v (.int k (k.wrap (p*2^min q.toNat k.bits))))) else none
 |_=>none
def tj(env:Env)(o:Option Operand)(d:Nat):Option Nat:=match o with
 |none=>some d
 |some x=>match(opv env x).bind jc with
  |some (_,i)=>bif decide (0≤i) then some i.toNat else none
  |none=>none
theorem mJ{env:Env}{o:Option Operand}{d n:Nat}(h:tj env o d=some n):Bnd env o d n:=by
 cases o with
 |none=>exact(inS h).symm
 |some x=>
  dsimp only[tj] at h
  split at h
  ·rename_i k i hx
   obtain⟨z,h1,h2⟩:=aX hx
   rw[cF h2] at h1
   by_cases hi:0≤i
   ·rw[dcT hi] at h
    exact⟨k,i,h1,hi,inS h⟩
   ·rw[dcF hi] at h;cases h
  ·cases h
def rS(P:Program)(env:Env)(T:Nat)(lo hi:Option Operand):AV→Option AV
 | .d (.sl es)=>match al P T,tj env lo 0,tj env hi es.length with
  |some (n,_),some l,some h=>bif decide (l≤h)&&(decide (h≤es.length)&&es.all λe=>Nat.beq e.length n) then some (.d (.sl ((es.drop l).take (h - l)))) else none
  |_,_,_=>none
 |_=>none
def ql(P:Program)(env:Env)(T:Nat)(parts:Array (Nat×Operand)):Option AV:=
 match cX P T,ay P T,br env (parts.toList.map (·.2)) with
 |some (_,n,_),some zs,some xs=>(match gZ (λi=>some (i*n,n)) (zs.map λv=> .d (.v v)) (iP parts.toList xs) with
  |some cs=>some (.ag cs)
  |none=>none)
 |_,_,_=>none
def ti(P:Program)(env:Env)(st:List AO)(T:Nat)(parts:Array (Nat×Operand)):Option AV:=
 match bR P T,ay P T,br env (parts.toList.map (·.2)) with
 |some pl,some zs,some xs=>(match gq st (λi=>pl[i]?) (zs.map λv=> .d (.v v)) (iP parts.toList xs) with
  |some cs=>some (.ag cs)
  |none=>none)
 |_,_,_=>ql P env T parts
def wE(P:Program)(st:List AO)(T:Nat):AV→Option AV
 | .d (.v (.slice none 0 0))=>match P.underlying T with
  |some (.slice _)=>some (.d (.v (.bool true)))
  |_=>none
 | .d (.sl (_::_))=>match P.underlying T with
  |some (.slice _)=>some (.d (.v (.bool false)))
  |_=>none
 | .os id ver=>match P.underlying T,osA st id ver with
  |some (.slice _),some (_,_,_::_)=>some (.d (.v (.bool false)))
  |_,_=>none
 |_=>none
def eqX(P:Program)(T:Nat):Option (List Value)→Option (List Value)→BinOp→Option AV
 |some xs,some ys, .eql=>(match gV P T with
  |some ks=>bif bj ks xs&&bj ks ys then some (.d (.v (.bool (eqL xs ys)))) else none
  |none=>none)
 |some xs,some ys, .neq=>(match gV P T with
  |some ks=>bif bj ks xs&&bj ks ys then some (.d (.v (.bool (!eqL xs ys)))) else none
  |none=>none)
 |_,_,_=>none
def wT(P:Program)(T:Nat):Option AV→Option AV→BinOp→Option AV
 |some (.d (.v (.bool p))),some (.d (.v (.bool q))), .eql=>(match P.underlying T with
  |some .bool=>some (.d (.v (.bool (p==q))))
  |_=>none)
 |some (.d (.v (.string p))),some (.d (.v (.string q))), .eql=>some (.d (.v (.bool (p.data.toList==q.data.toList))))
 |_,_,_=>none
def ixA(P:Program)(st:List AO)(T:Nat)(xr:AV)(i:Int):Option AV:=match cX P T with
 |some (len,n,_)=>bif decide (0≤i)&&decide (i<len) then(match xr with
  | .pt id off=>some (.pt id (off+i.toNat*n))
  | .d (.pc ps)=>some (.d (.pc (ps.drop (i.toNat*n))))
  | .pe id ver off=>(match osA st id ver with
   |some _=>some (.pe id ver (off+i.toNat*n))
   |none=>none)
  |_=>none) else none
 |none=>none
def ixV(P:Program)(T:Nat)(xr:AV)(i:Int):Option AV:=match cX P T with
 |some (len,n,false)=>bif decide (0≤i)&&decide (i<len) then(match xr with
  | .d (.ag ps)=>(match ps[i.toNat*n]? with
   |some p=>some (.d p)
   |none=>none)
  | .ag ps=>ps[i.toNat*n]?
  |_=>none) else none
 |some (len,n,true)=>bif decide (0≤i)&&decide (i<len) then(match xr with
  | .d (.ag ps)=>some (.d (.ag ((ps.drop (i.toNat*n)).take n)))
  | .ag ps=>some (.ag ((ps.drop (i.toNat*n)).take n))
  |_=>none) else none
 |none=>none
def b2X(P:Program)(env:Env)(st:List AO)(S T:TypeId)(x:Operand):Option AV:=match opv env x,P.underlying S,P.underlying T with
 |some (.os id ver),some (.slice e),some .string=>(match osA st id ver,P.underlying e with
  |some (_,_,es),some (.int .u8)=>(match byV es with
   |some bs=>some (.d (.v (.string ⟨bs.toArray⟩)))
   |none=>none)
  |_,_=>none)
 |_,_,_=>none
def exY(P:Program)(t:Ty)(env:Env)(st:List AO)(op:Op):Option AV:=
 match ig t env st op with
 |some r=>some r
 |none=>match op with
  | .indexAddr T x ix=>(match opv env x,(opv env ix).bind jc with
   |some xr,some (_,i)=>(match ixS P st T xr i with
    |some r=>some r
    |none=>ixA P st T xr i)
   |_,_=>none)
  | .load T x=>(opv env x).bind (sn P st T)
  | .fieldAddr S x i=>(opv env x).bind (faX P st S i)
  | .nilCheck x=>(opv env x).bind (ncX st)
  | .call c=>(match c.callee,c.args.toList,c.argTypes.toList with
   | .builtin .len,[x],[T]=>(opv env x).bind (lenX P st T)
   | .builtin .max,[x,y],[_,_]=>(match(opv env x).bind jc,(opv env y).bind jc with
    |some (k,p),some (k',q)=>bif decide (k=k') then some (.d (.v (.int k (if q>p then q else p)))) else none
    |_,_=>none)
   | .builtin .min,[x,y],[_,_]=>(match(opv env x).bind jc,(opv env y).bind jc with
    |some (k,p),some (k',q)=>bif decide (k=k') then some (.d (.v (.int k (if q<p then q else p)))) else none
    |_,_=>none)
   |_,_,_=>none)
  | .binOp .eql T x (.const (.slice none 0 0)) _=>(opv env x).bind (wE P st T)
  | .binOp b T x y _=>(match(opv env x).bind jc,(opv env y).bind jc with
   |some (k,p),some (k',q)=>(match shX k p q b with
    |some r=>some r
    |none=>bif decide (k=k') then bitX k p q b else none)
   |_,_=>(match eqX P T ((opv env x).bind agV) ((opv env y).bind agV) b with
    |some r=>some r
    |none=>wT P T (opv env x) (opv env y) b))
  | .slice T x lo hi none=>(opv env x).bind (rS P env T lo hi)
  | .convert S T x=>b2X P env st S T x
  | .lookup T x ki c=>lkX P env st T x ki c
  | .entry x=>enX env st x
  | .build T parts=>ti P env st T parts
  | .index T x ix=>(match opv env x,(opv env ix).bind jc,P.underlying T with
   |some (.d (.v (.string s))),some (_,i),some .string=>(match il s i with
    |some r=>some (.d (.v (.int .u8 r)))
    |none=>none)
   |some xr,some (_,i),_=>ixV P T xr i
   |_,_,_=>none)
  |_=>none
section
variable{P:Program}{t:Ty}{env:Env}{st:List AO}{dst:Option Tmp}{ty:TypeId}{pos:String}{after:Array Edge}{guard:Option (Nat×Bool)}
theorem mU{x:Operand}{id ver off Te k:Nat}{es:List (List AV)}(hx:opv env x=some (.pe id ver off))(hi:st[id]? =some (.os Te k ver es)):Yields P env st ⟨dst, .nilCheck x,ty,pos,after,guard⟩ (.pe id ver off):=λm φ a w hs he=>by
 obtain⟨p,h2⟩:=wi hs he hx hi
 refine⟨_,ap he hx,λw' _=>?_⟩
 simp[execOp,h2]
theorem wC{T:Nat}{x ix:Operand}{xr r:AV}{k:IntKind}{i:Int}(hx:opv env x=some xr)(hi:opv env ix=some (.d (.v (.int k i))))(h:ixS P st T xr i=some r):Yields P env st ⟨dst, .indexAddr T x ix,ty,pos,after,guard⟩ r:=by
 unfold ixS at h
 split at h
 ·rename_i n bb hT
  by_cases h0:0≤i
  ·rw[dcT h0,cdT] at h
   split at h
   ·rename_i es
    split at h
    ·rename_i cs hc
     cases hb:Nat.beq cs.length n with
     |false=>rw[hb] at h;cases h
     |true=>
      rw[hb] at h
      obtain rfl:=inS h
      exact aC hT hx (Le.refl _) hi h0 hc (nbE hb)
    ·cases h
   ·rename_i id ver
    split at h
    ·rename_i T' k' es ho
     by_cases h1:i<es.length
     ·rw[dcT h1] at h
      obtain rfl:=inS h
      exact aF hT hx (de ho) hi h0 h1
     ·rw[dcF h1] at h;cases h
    ·cases h
   ·cases h
  ·rw[dcF h0] at h;cases h
 ·cases h
theorem sm{T:Nat}{x:Operand}{xr r:AV}(hx:opv env x=some xr)(h:sn P st T xr=some r):Yields P env st ⟨dst, .load T x,ty,pos,after,guard⟩ r:=by
 unfold sn at h
 split at h
 ·split at h
  ·rename_i ho
   split at h
   ·rename_i ha;exact bH hx (de ho) ha h
   ·rename_i n ha hn
    obtain⟨hl,h⟩:=bK h
    obtain rfl:=inS h
    exact oF hx (de ho) ha hn (of_decide_eq_true hl)
   ·cases h
  ·cases h
 ·cases h
theorem lY{T T' E:Nat}{x:Operand}{b:Bool}(hT:P.underlying T=some (.slice E))(h:∀(m:List Cz)(φ:Nat→Nat)(a:Act)(w:World),SR m φ st w→EnvOk m φ w env a→∃ad ll cc,a.eval x= .slice ad ll cc∧ad.isNone=b):
  Yields P env st ⟨dst, .binOp .eql T x (.const (.slice none 0 0)) T',ty,pos,after,guard⟩ (.d (.v (.bool b))):=λm φ a w hs he=>by
 obtain⟨ad,ll,cc,h2,h3⟩:=h m φ a w hs he
 refine⟨.bool b,RAv,λw' _=>?_⟩
 have hc:a.eval (.const (.slice none 0 0))= .slice none 0 0:=rfl
 subst h3
 simp[execOp,h2,hc,eqGuard,binOp,run_equal_slice_nil w' T E ad ll cc hT]
theorem uG{T T':Nat}{x:Operand}{xr r:AV}(hx:opv env x=some xr)(h:wE P st T xr=some r):Yields P env st ⟨dst, .binOp .eql T x (.const (.slice none 0 0)) T',ty,pos,after,guard⟩ r:=by
 unfold wE at h
 split at h
 ·split at h
  ·rename_i hT
   obtain rfl:=inS h
   refine lY hT λm φ a w hs he=>?_
   have h1:=ap he hx
   simp only[RA,RD] at h1
   exact⟨none,0,0,h1,rfl⟩
  ·cases h
 ·rename_i c es
  split at h
  ·rename_i hT
   obtain rfl:=inS h
   refine lY hT λm φ a w hs he=>?_
   have h1:=ap he hx
   simp only[RA] at h1
   obtain⟨ad,ll,cc,h2,h3⟩:=tA h1
   refine⟨ad,ll,cc,h2,?_⟩
   cases hn:ad.isNone with
   |false=>rfl
   |true=>cases h3 hn
  ·cases h
 ·split at h
  ·rename_i hT ho
   obtain rfl:=inS h
   refine lY hT λm φ a w hs he=>?_
   obtain⟨y,xs,h1,h2,h3,_⟩:=gT hs he hx (de ho)
   rcases h3.2 with⟨rfl,hn⟩|⟨g,cap,cur,rfl,_⟩
   ·simp at hn
   ·exact⟨_,_,_,h2,rfl⟩
  ·cases h
 ·cases h
theorem wU{T T':Nat}{b:BinOp}{x y:Operand}{r:AV}(h:eqX P T ((opv env x).bind agV) ((opv env y).bind agV) b=some r):Yields P env st ⟨dst, .binOp b T x y T',ty,pos,after,guard⟩ r:=by
 unfold eqX at h
 split at h
 ·rename_i xs ys h1 h2
  obtain⟨z,g1,g2⟩:=aX h1
  obtain⟨z',k1,k2⟩:=aX h2
  split at h
  ·rename_i ks hk
   obtain⟨hc,h⟩:=bK h
   obtain rfl:=inS h
   rw[Bool.and_eq_true] at hc
   exact rH hk g1 (kJ g2) k1 (kJ k2) hc.1 hc.2 rfl
  ·cases h
 ·rename_i xs ys h1 h2
  obtain⟨z,g1,g2⟩:=aX h1
  obtain⟨z',k1,k2⟩:=aX h2
  split at h
  ·rename_i ks hk
   obtain⟨hc,h⟩:=bK h
   obtain rfl:=inS h
   rw[Bool.and_eq_true] at hc
   exact vR hk g1 (kJ g2) k1 (kJ k2) hc.1 hc.2 rfl
  ·cases h
 ·cases h
theorem uT{T T':Nat}{b:BinOp}{x y:Operand}{r:AV}(h:wT P T (opv env x) (opv env y) b=some r):Yields P env st ⟨dst, .binOp b T x y T',ty,pos,after,guard⟩ r:=by
 unfold wT at h
 split at h
 ·rename_i h1 h2
  split at h
  ·rename_i hT
   obtain rfl:=inS h
   exact y_eqb hT h1 h2
  ·cases h
 ·rename_i h1 h2
  rw[←ByteArray.toList_eq,←ByteArray.toList_eq] at h
  obtain rfl:=inS h
  exact vw h1 h2
 ·cases h
theorem jH{T len n:Nat}{bb:Bool}{x ix:Operand}{id ver off Te k:Nat}{es:List (List AV)}{kk:IntKind}{i:Int}(hT:cX P T=some (len,n,bb))(hx:opv env x=some (.pe id ver off))(hs0:st[id]? =some (.os Te k ver es))(hi:opv env ix=some (.d (.v (.int kk i))))
  (h0:0≤i)(h1:i<len):Yields P env st ⟨dst, .indexAddr T x ix,ty,pos,after,guard⟩ (.pe id ver (off+i.toNat*n)):=λm φ a w hs he=>by
 have hra:=ap he hx
 simp only[RA] at hra
 obtain⟨ver0,y0,g1,g2,g3⟩:=hra
 obtain⟨y,xs,e1,_⟩:=hs.obj id _ _ hs0 g1
 simp only[Cz.tok.injEq] at e1
 obtain⟨rfl,rfl⟩:=e1
 obtain⟨b,len',cap,rfl,hv⟩:=g3 rfl
 exact⟨.pointer (some ⟨b,off+i.toNat*n,none⟩),by simp only[RA];exact⟨_,_,g1,Nat.le_refl _,λ_=>⟨b,_,_,rfl,rfl⟩⟩,λw' _=>by simp[execOp,hv,ao he hi,dB hT h0 h1]⟩
theorem wD{T:Nat}{x ix:Operand}{xr r:AV}{k:IntKind}{i:Int}(hx:opv env x=some xr)(hi:opv env ix=some (.d (.v (.int k i))))(h:ixA P st T xr i=some r):Yields P env st ⟨dst, .indexAddr T x ix,ty,pos,after,guard⟩ r:=by
 unfold ixA at h
 split at h
 ·rename_i len n bb hT
  obtain⟨hc,h⟩:=bK h
  rw[Bool.and_eq_true] at hc
  have h0:=of_decide_eq_true hc.1
  have h1:=of_decide_eq_true hc.2
  split at h
  ·obtain rfl:=inS h;exact eU hT hx hi h0 h1
  ·obtain rfl:=inS h;exact cz hT hx hi h0 h1
  ·split at h
   ·rename_i ho;obtain rfl:=inS h;exact jH hT hx (de ho) hi h0 h1
   ·cases h
  ·cases h
 ·cases h
theorem qI{T len n:Nat}{x ix:Operand}{ps:List AV}{kk:IntKind}{i:Int}(hT:cX P T=some (len,n,true))(hx:opv env x=some (.ag ps))(hi:opv env ix=some (.d (.v (.int kk i))))
  (h0:0≤i)(h1:i<len):Yields P env st ⟨dst, .index T x ix,ty,pos,after,guard⟩ (.ag ((ps.drop (i.toNat*n)).take n)):=λm φ a w _ he=>by
 have hra:=ap he hx
 simp only[RA] at hra
 obtain⟨cs,h2,h3⟩:=hra
 obtain⟨t,g1,g2,g3⟩:=dh hT
 exact⟨_,by simp only[RA];exact⟨_,rfl,aU n (bg _ h3)⟩,λw' _=>by simp[execOp,Instr.index,h2,ao he hi,asIntOf,run_underlying g1,h0,h1,ah g2,gg g3 g2]⟩
theorem wB{T:Nat}{x ix:Operand}{xr r:AV}{k:IntKind}{i:Int}(hx:opv env x=some xr)(hi:opv env ix=some (.d (.v (.int k i))))(h:ixV P T xr i=some r):Yields P env st ⟨dst, .index T x ix,ty,pos,after,guard⟩ r:=by
 unfold ixV at h
 split at h
 ·rename_i len n hT
  obtain⟨hc,h⟩:=bK h
  rw[Bool.and_eq_true] at hc
  have h0:=of_decide_eq_true hc.1
  have h1:=of_decide_eq_true hc.2
  split at h
  ·split at h
   ·rename_i hp;obtain rfl:=inS h;exact tO hT hx hi h0 h1 hp
   ·cases h
  ·exact rD hT hx hi h0 h1 h
  ·cases h
 ·rename_i len n hT
  obtain⟨hc,h⟩:=bK h
  rw[Bool.and_eq_true] at hc
  have h0:=of_decide_eq_true hc.1
  have h1:=of_decide_eq_true hc.2
  split at h
  ·obtain rfl:=inS h;exact rE hT hx hi h0 h1
  ·obtain rfl:=inS h;exact qI hT hx hi h0 h1
  ·cases h
 ·cases h
theorem sP(ht:t.ok P=true){op:Op}{r:AV}(h:exY P t env st op=some r):Yields P env st ⟨dst,op,ty,pos,after,guard⟩ r:=by
 unfold exY at h
 split at h
 ·rename_i r' hr
  obtain rfl:=inS h
  exact jZ ht hr
 ·split at h
  ·rename_i T x ix
   split at h
   ·rename_i xr k i hx hi
    obtain⟨z,h1,h2⟩:=aX hi
    rw[cF h2] at h1
    split at h
    ·rename_i r1 hr1
     obtain rfl:=inS h
     exact wC hx h1 hr1
    ·exact wD hx h1 h
   ·cases h
  ·obtain⟨z,h1,h2⟩:=aX h
   exact sm h1 h2
  ·obtain⟨z,h1,h2⟩:=aX h
   unfold faX at h2
   split at h2
   ·split at h2
    ·rename_i ho hf
     obtain rfl:=inS h2
     exact b9 hf h1 (de ho)
    ·cases h2
   ·cases h2
  ·obtain⟨z,h1,h2⟩:=aX h
   unfold ncX at h2
   split at h2
   ·split at h2
    ·rename_i ho
     obtain rfl:=inS h2
     exact mU h1 (de ho)
    ·cases h2
   ·cases h2
  ·rename_i c _
   split at h
   ·rename_i x T hc ha hg
    have hcc:c=⟨.builtin .len, #[x], #[T]⟩:=by
     obtain⟨c1,c2,c3⟩:=c
     simp only at hc ha hg
     subst hc
     have e2:c2= #[x]:=by rw[←ha]
     have e3:c3= #[T]:=by rw[←hg]
     rw[e2,e3]
    obtain⟨z,h1,h2⟩:=aX h
    unfold lenX at h2
    split at h2
    ·split at h2
     ·rename_i hT;obtain rfl:=inS h2;exact jU hT hcc h1 (Le.refl _)
     ·cases h2
    ·split at h2
     ·rename_i hT ho;obtain rfl:=inS h2;exact jV hT hcc h1 (de ho)
     ·cases h2
    ·split at h2
     ·rename_i hT;obtain rfl:=inS h2;exact dQ hT hcc h1
     ·cases h2
    ·split at h2
     ·rename_i hT;obtain rfl:=inS h2;exact jU (es:=[]) hT hcc h1 Le.nil
     ·cases h2
    ·split at h2
     ·rename_i hT ho;obtain rfl:=inS h2;exact rC hT hcc h1 ho
     ·cases h2
    ·cases h2
   ·rename_i x y T1 T2 hc ha hg
    have hcc:c=⟨.builtin .max, #[x,y], #[T1,T2]⟩:=by
     obtain⟨c1,c2,c3⟩:=c
     simp only at hc ha hg
     subst hc
     have e2:c2= #[x,y]:=by rw[←ha]
     have e3:c3= #[T1,T2]:=by rw[←hg]
     rw[e2,e3]
    split at h
    ·rename_i hx hy
     have hk:=of_decide_eq_true (bK h).1
     have h3:=(bK h).2
     clear h
     subst hk
     obtain rfl:=inS h3
     obtain⟨z,h1,h2⟩:=aX hx
     rw[cF h2] at h1
     obtain⟨z',g1,g2⟩:=aX hy
     rw[cF g2] at g1
     exact rA hcc h1 g1
    ·cases h
   ·rename_i x y T1 T2 hc ha hg
    have hcc:c=⟨.builtin .min, #[x,y], #[T1,T2]⟩:=by
     obtain⟨c1,c2,c3⟩:=c
     simp only at hc ha hg
     subst hc
     have e2:c2= #[x,y]:=by rw[←ha]
     have e3:c3= #[T1,T2]:=by rw[←hg]
     rw[e2,e3]
    split at h
    ·rename_i hx hy
     have hk:=of_decide_eq_true (bK h).1
     have h3:=(bK h).2
     clear h
     subst hk
     obtain rfl:=inS h3
     obtain⟨z,h1,h2⟩:=aX hx
     rw[cF h2] at h1
     obtain⟨z',g1,g2⟩:=aX hy
     rw[cF g2] at g1
     exact rz hcc h1 g1
    ·cases h
   ·cases h
  ·obtain⟨z,h1,h2⟩:=aX h
   exact uG h1 h2
  ·rename_i b T x y T' _ _
   split at h
   ·rename_i k p k' q hx hy
    obtain⟨z,h1,h2⟩:=aX hx
    rw[cF h2] at h1
    obtain⟨z',g1,g2⟩:=aX hy
    rw[cF g2] at g1
    split at h
    ·rename_i r' hr
     obtain rfl:=inS h
     cases b<;>simp only[shX] at hr<;>first|cases hr|skip
     ·obtain⟨h0,hr⟩:=bK hr;obtain rfl:=inS hr;exact y_shl h1 g1 (of_decide_eq_true h0) rfl
     ·obtain⟨h0,hr⟩:=bK hr;obtain rfl:=inS hr;exact k6 h1 g1 (of_decide_eq_true h0)
    ·obtain⟨hk,h⟩:=bK h
     obtain rfl:=of_decide_eq_true hk
     cases b<;>simp only[bitX] at h<;>first|cases h|skip
     ·obtain⟨h0,h⟩:=bifN h;obtain rfl:=inS h;exact vu h1 g1 (of_decide_eq_false h0) rfl
     ·obtain⟨h0,h⟩:=bifN h;obtain rfl:=inS h;exact ru h1 g1 (of_decide_eq_false h0)
     ·exact mX h1 g1 rfl
     ·exact vQ h1 g1 rfl
     ·exact y_xor h1 g1 rfl
   ·split at h
    ·rename_i hq
     obtain rfl:=inS h
     exact wU hq
    ·exact uT h
  ·obtain⟨z,h1,h2⟩:=aX h
   unfold rS at h2
   split at h2
   ·split at h2
    ·rename_i hT hl hhi
     obtain⟨hc,h2⟩:=bK h2
     obtain rfl:=inS h2
     simp only[Bool.and_eq_true] at hc
     exact pz hT h1 (Le.refl _) (mJ hl) (mJ hhi) (of_decide_eq_true hc.1) (of_decide_eq_true hc.2.1) (λe he=>nbE (List.all_eq_true.1 hc.2.2 e he))
    ·cases h2
   ·cases h2
  ·unfold b2X at h
   split at h
   ·rename_i hx hS hT
    split at h
    ·rename_i ho he
     split at h
     ·rename_i bs hb
      obtain rfl:=inS h
      exact y_b2s hS he hT hx (de ho) hb
     ·cases h
    ·cases h
   ·cases h
  ·exact wx h
  ·exact wW h
  ·unfold ti at h
   split at h
   ·rename_i pl zs xs hp hz hx
    split at h
    ·rename_i cs hf
     obtain rfl:=inS h
     exact rI hp hz hx hf
    ·cases h
   ·unfold ql at h
    split at h
    ·rename_i hp hz hx
     split at h
     ·rename_i cs hf
      obtain rfl:=inS h
      exact jW hp hz hx hf
     ·cases h
    ·cases h
  ·split at h
   ·rename_i hx hi hT
    obtain⟨z,h1,h2⟩:=aX hi
    rw[cF h2] at h1
    split at h
    ·rename_i hr
     obtain rfl:=inS h
     exact bQ hT hx h1 hr
    ·cases h
   ·rename_i hx hi _
    obtain⟨z,h1,h2⟩:=aX hi
    rw[cF h2] at h1
    exact wB hx h1 h
   ·cases h
  ·cases h
end
theorem Does.nil_os{P:Program}{env:Env}{st st':List AO}{o:Oper}{r:AV}(t T k:Nat)(ht:env.get t=some (.d (.v (.slice none 0 0))))(h:Does P ((t, .os st.length 0)::env) (st++ [.os T k 0 []]) o r st'):Does P env st o r st':=λm φ a w hs he=>by
 obtain⟨h1,h2⟩:=jM (T:=T) (k:=k) hs
 have h3:EnvOk (m++ [.tok 0 (.slice none 0 0)]) φ w env a:=he.mono (Pre.append _ _) (Fz.refl φ w)
 have h4:EnvOk (m++ [.tok 0 (.slice none 0 0)]) φ w ((t, .os st.length 0)::env) a:=⟨λs x hx=>by
  unfold Env.get at hx
  cases hb:Nat.beq s t with
  |true=>
   rw[hb] at hx
   simp only[cdT,af] at hx
   subst hx
   have:s=t:=nbE hb
   subst this
   obtain⟨v,g1,g2⟩:=he s _ ht
   simp only[RA,RD] at g2
   subst g2
   refine⟨_,g1,?_⟩
   simp only[RA]
   exact⟨0,_,by rw[←hs.len];simp,Nat.le_refl _,λ_=>rfl⟩
  |false=>rw[hb] at hx;exact h3 s x hx,h3.gl⟩
 obtain⟨v,w',m',φ',k1,k2,k3,k4⟩:=h _ φ a w h2 h4
 exact⟨v,w',m',φ',k1,h1.trans k2,k3,k4⟩
def hG(k:Nat):Nat→List AV→List (List AV)
 |0,_=> []
 |n+1,xs=>xs.take k::hG k n (xs.drop k)
theorem lE(k:Nat):∀(n:Nat)(xs:List AV),xs.length=n*k→(hG k n xs).flatten=xs∧(hG k n xs).length=n∧∀e∈hG k n xs,e.length=k
 |0,xs,h=>by
  have:xs=[]:=List.eq_nil_of_length_eq_zero (by simpa using h)
  subst this
  exact⟨rfl,rfl,λe he=>by cases he⟩
 |n+1,xs,h=>by
  have hk:k≤xs.length:=by rw[h,Nat.succ_mul];omega
  obtain⟨h1,h2,h3⟩:=lE k n (xs.drop k) (by rw[List.length_drop,h,Nat.succ_mul];omega)
  refine⟨?_,?_,λe he=>?_⟩
  ·show xs.take k++(hG k n (xs.drop k)).flatten=xs
   rw[h1,List.take_append_drop]
  ·show(hG k n (xs.drop k)).length+1=n+1
   rw[h2]
  ·rcases List.mem_cons.1 he with rfl|he
   ·rw[List.length_take];omega
   ·exact h3 e he
theorem lv{k:Nat}:∀{es:List (List AV)},(∀e∈es,e.length=k)→es.flatten.length=es.length*k
 |[],_=>sM
 |e::es,h=>by
  rw[List.flatten_cons,List.length_append,lv (λe' he=>h e' (List.mem_cons_of_mem _ he)),h e List.mem_cons_self,List.length_cons,Nat.succ_mul]
  omega
def v8(st:List AO)(k:Nat):AV→Option (List (List AV))
 | .d (.sl ds)=>bif ds.all (λe=>Nat.beq e.length k) then some (ds.map λe=>e.map AV.d) else none
 | .os id ver=>match osA st id ver with
  |some (_,k',fs)=>bif Nat.beq k' k then some fs else none
  |none=>none
 | .d (.v (.slice none 0 0))=>some []
 |_=>none
theorem tT{st:List AO}{k:Nat}{x:AV}{fs:List (List AV)}(h:v8 st k x=some fs):Src st x k fs:=by
 unfold v8 at h
 split at h
 ·obtain⟨hc,h⟩:=bK h
  obtain rfl:=inS h
  exact Src.data (Le.refl _) (λe he=>nbE (List.all_eq_true.1 hc e he))
 ·split at h
  ·rename_i ho
   obtain⟨hc,h⟩:=bK h
   obtain rfl:=inS h
   have e:=nbE hc
   subst e
   exact Src.own (de ho)
  ·cases h
 ·obtain rfl:=inS h
  exact Src.data (ds:=[]) Le.nil (λe he=>by cases he)
 ·cases h
def vc(P:Program)(env:Env)(st:List AO)(s x:Operand)(T:Nat):Option (AV×List AO):=
 match opv env s,opv env x,bS P T with
 |some (.os id ver),some xr,some (e,k,by_)=>(match osA st id ver,v8 st k xr,ay P e with
  |some (e',k',es),some fs,some zs=>bif Nat.beq e' e&&(Nat.beq k' k&&(Nat.beq zs.length k&&(Nat.blt 0 k&&(fs.flatten.all (AV.ok1S st)&&(fs.all (λf=>Nat.beq f.length k)&&(decide (es.length+fs.length≤maxLen)&&decide ((es.length+fs.length)*by_≤140737488355328)))))))
   then cx (es++fs) (λes'=>some (.os id (ver+1),st.set id (.os e k (ver+1) es'))) else none
  |_,_,_=>none)
 |_,_,_=>none
def oP(P:Program)(env:Env)(st:List AO)(T:Nat)(x y:Operand):Option (AV×List AO):=
 match opv env x,opv env y,aI P T with
 |some (.pt id off),some r,some n=>(match st[id]? with
  |some (.row T' cs)=>bif r.okS st&&(r.cells.all (AV.ok1S st)&&(Nat.beq r.cells.length n&&Nat.ble (off+n) cs.length)) then cx (cs.take off++r.cells++cs.drop (off+n)) (λcs'=>some (.d (.v undef),st.set id (.row T' cs'))) else none
  |_=>none)
 |some (.pe id ver off),some r,some n=>(match osA st id ver with
  |some (T',k,es)=>bif r.okS st&&(r.cells.all (AV.ok1S st)&&(Nat.beq r.cells.length n&&(decide (off+n≤es.flatten.length)&&es.all λe=>Nat.beq e.length k)))
   then cx (es.flatten.take off++r.cells++es.flatten.drop (off+n)) (λfl=>cx (hG k es.length fl) λes'=>some (.d (.v undef),st.set id (.os T' k ver es'))) else none
  |none=>none)
 |_,_,_=>none
def mkX(P:Program)(env:Env)(st:List AO)(T:Nat)(x y:Operand):Option (AV×List AO):=
 match(opv env x).bind jc,(opv env y).bind jc,bS P T with
 |some (_,n),some (_,n'),some (e,k,by_)=>(match ay P e with
  |some zs=>bif decide (n=n')&&(Nat.beq zs.length k&&(Nat.blt 0 k&&kj by_ n)) then some (.os st.length 0,st++ [.os e k 0 (List.replicate n.toNat (zs.map λz=> .d (.v z)))]) else none
  |none=>none)
 |_,_,_=>none
def w5(P:Program)(env:Env)(st:List AO)(T len:Nat)(parts:Array (Nat×Operand)):Option (AV×List AO):=
 bif Nat.beq len 0&&parts.isEmpty then(match bS P T with
  |some (e,k,_)=>some (.os st.length 0,st++ [.os e k 0 []])
  |none=>none) else
 match bS P T,br env (parts.toList.map (·.2)) with
 |some (e,k,_),some xs=>(match ay P e with
  |some zs=>bif Nat.beq zs.length k&&(decide (len*k≤16777216)&&(Nat.blt 0 (len*k)&&(decide (parts.toList.map (·.1)=List.range len)&&((xs.all λx=>x.okS st&&Nat.beq x.cells.length k)&&decide (len≤maxLen)))))
   then some (.os st.length 0,st++ [.os e k 0 (xs.map AV.cells)]) else none
  |none=>none)
 |_,_=>none
def appN(P:Program)(env:Env)(st:List AO)(s x:Operand)(T:Nat):Option (AV×List AO):=
 match s with
 | .tmp t=>(match env.get t,bS P T with
  |some (.d (.v (.slice none 0 0))),some (e,k,_)=>vc P ((t, .os st.length 0)::env) (st++ [.os e k 0 []]) s x T
  |_,_=>none)
 |_=>none
def wh(P:Program)(env:Env)(st:List AO)(T:Nat)(x:Operand)(hi:Operand):Option (AV×List AO):=
 match opv env x,al P T,tj env (some hi) 0 with
 |some (.os id ver),some (k,_),some h=>(match osA st id ver with
  |some (e,k',es)=>bif Nat.beq k k'&&Nat.ble h es.length then some (.os id (ver+1),st.set id (.os e k (ver+1) (es.take h))) else none
  |none=>none)
 |_,_,_=>none
def wR(P:Program)(env:Env)(st:List AO):Op→Option (AV×List AO)
 | .box T x=>match opv env x with
  |some r=>bif r.okS st then some (.pt st.length 0,st++ [.row T r.cells]) else none
  |none=>none
 | .alloc T=>match ay P T with
  |some vs=>some (.pt st.length 0,st++ [.row T (vs.map λv=> .d (.v v))])
  |none=>none
 | .store T x y=>oP P env st T x y
 | .makeSlice T x y=>mkX P env st T x y
 | .buildSlice T len parts=>w5 P env st T len parts
 | .makeMap _ none=>some (.mp st.length,st++ [.mb [] [] 0])
 | .insert T x ki v=>muX P env st T x ki v
 | .mapUpdate T x ki v=>muX P env st T x ki v
 | .range T x=>rgX P env st T x
 | .slice T x none (some hi) none=>wh P env st T x hi
 | .call c=>(match c.callee,c.args.toList,c.argTypes.toList with
  | .builtin .append,[s,x],[T,T']=>bif Nat.beq T T' then(match vc P env st s x T with
   |some r=>some r
   |none=>appN P env st s x T) else none
  |_,_,_=>none)
 |_=>none
def exD(P:Program)(env:Env)(st:List AO)(op:Op):Option (AV×List AO):=match wR P env st op with
 |some (r,s)=>cx s λs'=>some (r,s')
 |none=>none
section
variable{P:Program}{env:Env}{st st':List AO}{dst:Option Tmp}{ty:TypeId}{pos:String}{after:Array Edge}{guard:Option (Nat×Bool)}
theorem qO{T:Nat}{x y:Operand}{r:AV}(h:oP P env st T x y=some (r,st')):Does P env st ⟨dst, .store T x y,ty,pos,after,guard⟩ r st':=by
 unfold oP at h
 split at h
 ·rename_i hx hy hn
  split at h
  ·rename_i hs
   obtain⟨hc,h⟩:=bK h
   rw[ct] at h
   simp only[af,Prod.mk.injEq] at h
   obtain⟨rfl,rfl⟩:=h
   simp only[Bool.and_eq_true] at hc
   exact td hx hs hy hc.1 rfl hc.2.1 hn (nbE hc.2.2.1) hc.2.2.2
  ·cases h
 ·rename_i id ver off r0 n hx hy hn
  split at h
  ·rename_i T' k es ho
   obtain⟨hc,h⟩:=bK h
   rw[ct,ct] at h
   simp only[af,Prod.mk.injEq] at h
   obtain⟨rfl,rfl⟩:=h
   simp only[Bool.and_eq_true,decide_eq_true_eq] at hc
   obtain⟨c1,c2,c3,c4,c5⟩:=hc
   have c3:=nbE c3
   have hk:∀e∈es,e.length=k:=λe he=>nbE (List.all_eq_true.1 c5 e he)
   have hf:=lv hk
   obtain⟨q1,q2,q3⟩:=lE k es.length (es.flatten.take off++r0.cells++es.flatten.drop (off+n)) (by
    rw[List.length_append,List.length_append,List.length_take,List.length_drop,c3,←hf];omega)
   exact nT hx (de ho) hy c1 rfl c2 hn c3 c4 q1 q2 q3
  ·cases h
 ·cases h
theorem wt{T:Nat}{x y:Operand}{r:AV}(h:mkX P env st T x y=some (r,st')):Does P env st ⟨dst, .makeSlice T x y,ty,pos,after,guard⟩ r st':=by
 unfold mkX at h
 split at h
 ·rename_i hx hy hT
  split at h
  ·rename_i hz
   obtain⟨hc,h⟩:=bK h
   simp only[af,Prod.mk.injEq] at h
   obtain⟨rfl,rfl⟩:=h
   simp only[Bool.and_eq_true,decide_eq_true_eq] at hc
   obtain⟨rfl,c1,c2,c3⟩:=hc
   obtain⟨z,h1,h2⟩:=aX hx
   rw[cF h2] at h1
   obtain⟨z',g1,g2⟩:=aX hy
   rw[cF g2] at g1
   exact(cP hT hz (nbE c1) (nbT c2) h1 g1 c3).b.does
  ·cases h
 ·cases h
theorem u9{T len:Nat}{parts:Array (Nat×Operand)}{r:AV}(h:w5 P env st T len parts=some (r,st')):Does P env st ⟨dst, .buildSlice T len parts,ty,pos,after,guard⟩ r st':=by
 unfold w5 at h
 cases h0:Nat.beq len 0&&parts.isEmpty with
 |true=>
  rw[h0,cdT] at h
  rw[Bool.and_eq_true] at h0
  have e0:=nbE h0.1
  have e1:parts= #[]:=by simpa using h0.2
  subst e0
  subst e1
  split at h
  ·rename_i hT
   simp only[af,Prod.mk.injEq] at h
   obtain⟨rfl,rfl⟩:=h
   exact(jA hT).b.does
  ·cases h
 |false=>
 rw[h0,cdF] at h
 split at h
 ·rename_i hT hx
  split at h
  ·rename_i hz
   obtain⟨hc,h⟩:=bK h
   simp only[af,Prod.mk.injEq] at h
   obtain⟨rfl,rfl⟩:=h
   simp only[Bool.and_eq_true,decide_eq_true_eq] at hc
   obtain⟨c1,c2,c3,c4,c5,c6⟩:=hc
   exact(kZ hT hz (nbE c1) c2 (nbT c3) c4 hx c5 c6).b.does
  ·cases h
 ·cases h
theorem qr{T:Nat}{s x:Operand}{c:Call}{r:AV}(hcc:c=⟨.builtin .append, #[s,x], #[T,T]⟩)(h2:vc P env st s x T=some (r,st')):Does P env st ⟨dst, .call c,ty,pos,after,guard⟩ r st':=by
 unfold vc at h2
 split at h2
 ·rename_i hs hx hT
  split at h2
  ·rename_i ho hsrc hz
   obtain⟨hc',h3⟩:=bK h2
   rw[ct] at h3
   simp only[af,Prod.mk.injEq] at h3
   obtain⟨rfl,rfl⟩:=h3
   simp only[Bool.and_eq_true,decide_eq_true_eq] at hc'
   obtain⟨c1,c2,c3,c4,c5,c6,c7,c8⟩:=hc'
   have c1:=nbE c1
   have c2:=nbE c2
   subst c1 c2
   exact rg (_T':=0) hT hz (nbE c3) (nbT c4) hcc hs (de ho) hx (tT hsrc) c5 (λf hf=>nbE (List.all_eq_true.1 c6 f hf)) c7 c8
  ·cases h2
 ·cases h2
theorem tX{T:Nat}{x hi:Operand}{r:AV}(h:wh P env st T x hi=some (r,st')):Does P env st ⟨dst, .slice T x none (some hi) none,ty,pos,after,guard⟩ r st':=by
 unfold wh at h
 split at h
 ·rename_i id ver k bb n hx hT hb
  split at h
  ·rename_i e k' es ho
   obtain⟨hc,h⟩:=bK h
   simp only[af,Prod.mk.injEq] at h
   obtain⟨rfl,rfl⟩:=h
   rw[Bool.and_eq_true] at hc
   have hk:=nbE hc.1
   subst hk
   have hbd:Bnd env (some hi) es.length n:=by
    have:=mJ hb
    exact this
   exact vF hT hx (de ho) hbd (nbT hc.2)
  ·cases h
 ·cases h
theorem uR{op:Op}{r:AV}(h:wR P env st op=some (r,st')):Does P env st ⟨dst,op,ty,pos,after,guard⟩ r st':=by
 unfold wR at h
 split at h
 ·split at h
  ·rename_i hx
   obtain⟨hc,h⟩:=bK h
   simp only[af,Prod.mk.injEq] at h
   obtain⟨rfl,rfl⟩:=h
   exact(w7 hx hc).does
  ·cases h
 ·split at h
  ·rename_i hz
   simp only[af,Prod.mk.injEq] at h
   obtain⟨rfl,rfl⟩:=h
   exact(qo hz).does
  ·cases h
 ·exact qO h
 ·exact wt h
 ·exact u9 h
 ·simp only[af,Prod.mk.injEq] at h
  obtain⟨rfl,rfl⟩:=h
  exact sc.does
 ·exact r8 (.inl rfl) h
 ·exact r8 (.inr rfl) h
 ·exact wa h
 ·exact tX h
 ·rename_i c
  split at h
  ·rename_i s x T T' hc ha hg
   have hTT:=(bK h).1
   have h2:=(bK h).2
   clear h
   obtain rfl:=nbE hTT
   have hcc:c=⟨.builtin .append, #[s,x], #[T,T]⟩:=by
    obtain⟨c1,c2,c3⟩:=c
    subst hc
    have e2:c2= #[s,x]:=by rw[←ha]
    have e3:c3= #[T,T]:=by rw[←hg]
    rw[e2,e3]
   split at h2
   ·rename_i r' hr'
    obtain rfl:=inS h2
    exact qr hcc hr'
   ·unfold appN at h2
    split at h2
    ·split at h2
     ·rename_i e k _ hg he
      exact Does.nil_os _ e k hg (qr hcc h2)
     ·cases h2
    ·cases h2
  ·cases h
 ·cases h
theorem mE{op:Op}{r:AV}(h:exD P env st op=some (r,st')):Does P env st ⟨dst,op,ty,pos,after,guard⟩ r st':=by
 unfold exD at h
 split at h
 ·rename_i hx
  rw[ct] at h
  simp only[af,Prod.mk.injEq] at h
  obtain⟨rfl,rfl⟩:=h
  exact uR hx
 ·cases h
end
abbrev bl:=FuncId→List AV→List AO→Option (AV×List AO)
def bM(P:Program)(call:bl):Prop:=∀f asz st r st',call f asz st=some (r,st')→Ctr P f asz st (λr' s'=>r'=r∧s'=st')
def ip(nt:Nat)(o:Oper)(env:Env)(r:AV)(st:List AO):Option (Env×List AO):=match o.dst with
 |some d=>bif Nat.ble (d+1) nt then some ((d,r)::env,st) else none
 |none=>some (env,st)
def nilX(P:Program)(env:Env)(st:List AO):Op→Option (Env×List AO)
 | .call c=>(match c.args.toList,c.argTypes.toList with
  |[.tmp s,_],[T,_]=>(match env.get s,bS P T with
   |some (.d (.v (.slice none 0 0))),some (e,k,_)=>some ((s, .os st.length 0)::env,st++ [.os e k 0 []])
   |_,_=>none)
  |_,_=>none)
 |_=>none
def qk(call:bl)(env:Env)(st:List AO):Op→Option (AV×List AO)
 | .call c=>(match c.callee with
  | .value x=>(match opv env x,br env c.args.toList with
   |some (.fn (.func f) first caps),some asz=>call f (first++asz++caps) st
   |_,_=>none)
  |_=>none)
 |_=>none
abbrev jm:=Nat→List AV→List AO→Option (AV×List AO)
def kK(P:Program)(yld:jm):Prop:=∀id asz st r st',yld id asz st=some (r,st')→∀(e:En)(ops:Array Oper)(rest:List Oper)(o:Oper)(env:Env)(R:Env→List AO→Prop)(c:Call)(x:Operand)(d:Nat),
 o.op= .call c→c.callee= .value x→opv env x=some (.yl id)→br env c.args.toList=some asz→Wt ops env o true→o.dst=some d→Nat.ble (d+1) e.n=true→WL P e ops rest ((d,r)::env) st' R→WL P e ops (o::rest) env st R
def ylX(yld:jm)(env:Env)(st:List AO):Op→Option (AV×List AO)
 | .call c=>(match c.callee with
  | .value x=>(match opv env x,br env c.args.toList with
   |some (.yl id),some asz=>yld id asz st
   |_,_=>none)
  |_=>none)
 |_=>none
def exE(P:Program)(t:Ty)(nt:Nat)(call:bl)(yld:jm)(ops:Array Oper)(env:Env)(st:List AO)(o:Oper):Option (Env×List AO):=
 match fy ops env o.guard with
 |none=>none
 |some false=>ip nt o env (.d (.v undef)) st
 |some true=>match exY P t env st o.op with
  |some r=>(match o.dst with
   |some _=>ip nt o env r st
   |none=>none)
  |none=>(match exD P env st o.op with
   |some (r,st')=>ip nt o env r st'
   |none=>(match qk call env st o.op with
    |some (r,st')=>(match o.dst with
     |some _=>ip nt o env r st'
     |none=>none)
    |none=>(match nilX P env st o.op with
     |some (env1,st1)=>(match fy ops env1 o.guard,exD P env1 st1 o.op with
      |some true,some (r,st')=>ip nt o env1 r st'
      |_,_=>none)
     |none=>(match ylX yld env st o.op with
      |some (r,st')=>(match o.dst with
       |some _=>ip nt o env r st'
       |none=>none)
      |none=>none))))
abbrev db:=Oper→Env→List AO→Option (Env×List AO)
def eC(hook:db):Prop:=∀(e:En) o env st env' st',hook o env st=some (env',st')→Gh e env st env' st'
def exL(P:Program)(t:Ty)(nt:Nat)(call:bl)(yld:jm)(hook:db)(ops:Array Oper):List Oper→Env→List AO→Option (Env×List AO)
 |[],env,st=>some (env,st)
 |o::l,env,st=>match hook o env st with
  |some (env1,st1)=>(match exE P t nt call yld ops env1 st1 o with
   |some (env',st')=>exL P t nt call yld hook ops l env' st'
   |none=>none)
  |none=>(match exE P t nt call yld ops env st o with
   |some (env',st')=>exL P t nt call yld hook ops l env' st'
   |none=>none)
section
variable{P:Program}{t:Ty}{nt:Nat}{call:bl}{yld:jm}{e:En}{ops:Array Oper}{l:List Oper}{R:Env→List AO→Prop}{env env':Env}{st st':List AO}
theorem vH{o:Oper}{r:AV}(hw:Wt ops env o true)(hy:Does P env st o r st')(hn:e.n=nt)(hp:ip nt o env r st'=some (env',st'))(k:WL P e ops l env' st' R):WL P e ops (o::l) env st R:=by
 unfold ip at hp
 split at hp
 ·rename_i d hd
  obtain⟨hb,hp⟩:=bK hp
  simp only[af,Prod.mk.injEq] at hp
  obtain⟨rfl,_⟩:=hp
  exact WL.s hy hw hd (by rw[hn];exact hb) k
 ·rename_i hd
  simp only[af,Prod.mk.injEq] at hp
  obtain⟨rfl,_⟩:=hp
  exact WL.s0 hy hw hd k
theorem pK{o:Oper}{r:AV}{s:List AO}(h:ip nt o env r s=some (env',st')):st'=s:=by
 unfold ip at h
 split at h
 ·obtain⟨_,h⟩:=bK h
  simp only[af,Prod.mk.injEq] at h
  exact h.2.symm
 ·simp only[af,Prod.mk.injEq] at h
  exact h.2.symm
theorem pb(ht:t.ok P=true)(hc:bM P call)(hyl:kK P yld)(hn:e.n=nt){o:Oper}(h:exE P t nt call yld ops env st o=some (env',st'))(k:WL P e ops l env' st' R):WL P e ops (o::l) env st R:=by
 unfold exE at h
 split at h
 ·cases h
 ·rename_i hw
  unfold ip at h
  split at h
  ·rename_i d hd
   obtain⟨hb,h⟩:=bK h
   simp only[af,Prod.mk.injEq] at h
   obtain⟨rfl,rfl⟩:=h
   exact WL.skip (bO hw) hd (by rw[hn];exact hb) k
  ·rename_i hd
   simp only[af,Prod.mk.injEq] at h
   obtain⟨rfl,rfl⟩:=h
   exact WL.skip0 (bO hw) hd k
 ·rename_i hw
  have hw:=bP hw
  split at h
  ·rename_i r hr
   split at h
   ·rename_i d hd
    unfold ip at h
    rw[hd] at h
    obtain⟨hb,h⟩:=bK h
    simp only[af,Prod.mk.injEq] at h
    obtain⟨rfl,rfl⟩:=h
    obtain⟨od,oop,oty,opos,oaf,og⟩:=o
    exact WL.q (sP ht hr) hw hd (by rw[hn];exact hb) k
   ·cases h
  ·split at h
   ·rename_i r s hr
    obtain rfl:=pK h
    obtain⟨od,oop,oty,opos,oaf,og⟩:=o
    exact vH hw (mE hr) hn h k
   ·split at h
    ·rename_i r s hr
     split at h
     ·rename_i d hd
      unfold ip at h
      rw[hd] at h
      obtain⟨hb,h⟩:=bK h
      simp only[af,Prod.mk.injEq] at h
      obtain⟨rfl,rfl⟩:=h
      unfold qk at hr
      split at hr
      ·rename_i c hop
       split at hr
       ·rename_i x hx
        split at hr
        ·rename_i f first caps asz hf has
         refine WL.call (Q:=λr' s'=>r'=r∧s'=s) hop hx hf has (hc _ _ _ _ _ hr) (Les.refl _) hw hd (by rw[hn];exact hb) λr' s' hq=>?_
         obtain⟨rfl,rfl⟩:=hq
         exact k
        ·cases hr
       ·cases hr
      ·cases hr
     ·cases h
    ·split at h
     ·rename_i env1 st1 h1
      split at h
      ·rename_i r s hw1 hr
       obtain rfl:=pK h
       unfold nilX at h1
       split at h1
       ·split at h1
        ·split at h1
         ·rename_i T1 k1 _ hg he
          simp only[af,Prod.mk.injEq] at h1
          obtain⟨rfl,rfl⟩:=h1
          refine WL.nil_os _ T1 k1 hg ?_
          obtain⟨od,oop,oty,opos,oaf,og⟩:=o
          exact vH (bP hw1) (mE hr) hn h k
         ·cases h1
        ·cases h1
       ·cases h1
      ·cases h
     ·split at h
      ·rename_i r s hr
       split at h
       ·rename_i d hd
        unfold ip at h
        rw[hd] at h
        obtain⟨hb,h⟩:=bK h
        simp only[af,Prod.mk.injEq] at h
        obtain⟨rfl,rfl⟩:=h
        unfold ylX at hr
        split at hr
        ·rename_i c hop
         split at hr
         ·rename_i x hx
          split at hr
          ·rename_i id asz hf has
           exact hyl _ _ _ _ _ hr _ _ _ _ _ _ _ _ _ hop hx hf has hw hd (by rw[hn];exact hb) k
          ·cases hr
         ·cases hr
        ·cases hr
       ·cases h
      ·cases h
theorem pa(ht:t.ok P=true)(hc:bM P call)(hyl:kK P yld){hook:db}(hh:eC hook)(hn:e.n=nt):∀{l:List Oper}{env:Env}{st:List AO},exL P t nt call yld hook ops l env st=some (env',st')→R env' st'→WL P e ops l env st R
 |[],env,st,h,k=>by
  simp only[exL,af,Prod.mk.injEq] at h
  obtain⟨rfl,rfl⟩:=h
  exact WL.nil k
 |o::l,env,st,h,k=>by
  unfold exL at h
  split at h
  ·rename_i hk
   split at h
   ·rename_i hs
    exact(hh e _ _ _ _ _ hk).wl (pb ht hc hyl hn hs (pa ht hc hyl hh hn h k))
   ·cases h
  ·split at h
   ·rename_i hs
    exact pb ht hc hyl hn hs (pa ht hc hyl hh hn h k)
   ·cases h
end
def eqV:Value→Value→Bool
 | .int k a, .int k' b=>decide (k=k')&&decide (a=b)
 | .bool a, .bool b=>a==b
 | .slice none 0 0, .slice none 0 0=>true
 | .pointer none, .pointer none=>true
 | .map none, .map none=>true
 | .tuple a, .tuple b=>a.toList.isEmpty&&b.toList.isEmpty
 | .string a, .string b=>a.data.toList==b.data.toList
 |_,_=>false
theorem sW:∀{a b:Value},eqV a b=true→a=b:=by
 intro a b h
 unfold eqV at h
 split at h
 ·simp only[Bool.and_eq_true,decide_eq_true_eq] at h
  rw[h.1,h.2]
 ·simp only[beq_iff_eq] at h
  rw[h]
 ·rfl
 ·rfl
 ·rfl
 ·rename_i a b
  obtain⟨a⟩:=a;obtain⟨b⟩:=b
  rw[Bool.and_eq_true,List.isEmpty_iff,List.isEmpty_iff] at h
  simp only at h
  rw[h.1,h.2]
 ·rename_i a b
  rw[beq_iff_eq] at h
  have:a=b:=by
   obtain⟨⟨a⟩⟩:=a;obtain⟨⟨b⟩⟩:=b
   simp only at h
   rw[h]
  rw[this]
 ·cases h
mutual
def eqD:D→D→Bool
 | .v a, .v b=>eqV a b
 | .sl a, .sl b=>eqDss a b
 | .pc a, .pc b=>eqDs a b
 | .ag a, .ag b=>eqDs a b
 | .tu a, .tu b=>eqDs a b
 |_,_=>false
def eqDs:List D→List D→Bool
 |[],[]=>true
 |x::a,y::b=>eqD x y&&eqDs a b
 |_,_=>false
def eqDss:List (List D)→List (List D)→Bool
 |[],[]=>true
 |x::a,y::b=>eqDs x y&&eqDss a b
 |_,_=>false
end
mutual
theorem pg:∀{a b:D},eqD a b=true→a=b
 | .v a,b,h=>by
  cases b<;>first|(simp only[eqD] at h;rw[sW h])|simp[eqD] at h
 | .sl a,b,h=>by
  cases b<;>first|(simp only[eqD] at h;rw[eqDss_ok h])|simp[eqD] at h
 | .pc a,b,h=>by
  cases b<;>first|(simp only[eqD] at h;rw[eqDs_ok h])|simp[eqD] at h
 | .ag a,b,h=>by
  cases b<;>first|(simp only[eqD] at h;rw[eqDs_ok h])|simp[eqD] at h
 | .tu a,b,h=>by
  cases b<;>first|(simp only[eqD] at h;rw[eqDs_ok h])|simp[eqD] at h
 | .ifc t a,b,h=>by simp[eqD] at h
 | .fnc f a c,b,h=>by simp[eqD] at h
theorem eqDs_ok:∀{a b:List D},eqDs a b=true→a=b
 |[],b,h=>by cases b with
  |nil=>rfl
  |cons y b=>simp[eqDs] at h
 |x::a,b,h=>by cases b with
  |nil=>simp[eqDs] at h
  |cons y b=>
   simp only[eqDs,Bool.and_eq_true] at h
   rw[pg h.1,eqDs_ok h.2]
theorem eqDss_ok:∀{a b:List (List D)},eqDss a b=true→a=b
 |[],b,h=>by cases b with
  |nil=>rfl
  |cons y b=>simp[eqDss] at h
 |x::a,b,h=>by cases b with
  |nil=>simp[eqDss] at h
  |cons y b=>
   simp only[eqDss,Bool.and_eq_true] at h
   rw[eqDs_ok h.1,eqDss_ok h.2]
end
mutual
def nP:AV→AV→Bool
 | .u, .u=>true
 | .d a, .d b=>eqD a b
 | .pt i o, .pt j p=>Nat.beq i j&&Nat.beq o p
 | .os i o, .os j p=>Nat.beq i j&&Nat.beq o p
 | .pe i v o, .pe j u p=>Nat.beq i j&&(Nat.beq v u&&Nat.beq o p)
 | .ag a, .ag b=>eqAVs a b
 | .tu a, .tu b=>eqAVs a b
 | .mp i, .mp j=>Nat.beq i j
 | .fn (.func f) a c, .fn (.func g) b d=>Nat.beq f g&&(eqAVs a b&&eqAVs c d)
 |_,_=>false
def eqAVs:List AV→List AV→Bool
 |[],[]=>true
 |x::a,y::b=>nP x y&&eqAVs a b
 |_,_=>false
end
mutual
theorem iD:∀{a b:AV},nP a b=true→a=b:=by
 intro a b h
 unfold nP at h
 split at h
 ·rfl
 ·rw[pg h]
 ·simp only[Bool.and_eq_true] at h
  rw[nbE h.1,nbE h.2]
 ·simp only[Bool.and_eq_true] at h
  rw[nbE h.1,nbE h.2]
 ·simp only[Bool.and_eq_true] at h
  rw[nbE h.1,nbE h.2.1,nbE h.2.2]
 ·rw[eqAVs_ok h]
 ·rw[eqAVs_ok h]
 ·rw[nbE h]
 ·simp only[Bool.and_eq_true] at h
  rw[nbE h.1,eqAVs_ok h.2.1,eqAVs_ok h.2.2]
 ·cases h
theorem eqAVs_ok:∀{a b:List AV},eqAVs a b=true→a=b:=by
 intro a b h
 unfold eqAVs at h
 split at h
 ·rfl
 ·simp only[Bool.and_eq_true] at h
  rw[iD h.1,eqAVs_ok h.2]
 ·cases h
end
theorem tl{c a:Bool}(h:(bif c then a else false)=true):c=true∧a=true:=by
 cases c
 ·cases h
 ·exact⟨rfl,h⟩
def uV:List (Value×Nat)→List (Value×Nat)→Bool
 |[],[]=>true
 |x::xs,y::ys=>eqV x.1 y.1&&(Nat.beq x.2 y.2&&uV xs ys)
 |_,_=>false
theorem qf:∀{a b:List (Value×Nat)},uV a b=true→a=b
 |[],[],_=>rfl
 |(x,n)::xs,(y,k)::ys,h=>by
  simp only[uV,Bool.and_eq_true] at h
  rw[sW h.1,nbE h.2.1,qf h.2.2]
 |[],_::_,h=>by cases h
 |_::_,[],h=>by cases h
def uU:List Nat→List Nat→Bool
 |[],[]=>true
 |x::xs,y::ys=>Nat.beq x y&&uU xs ys
 |_,_=>false
theorem qe:∀{a b:List Nat},uU a b=true→a=b
 |[],[],_=>rfl
 |x::xs,y::ys,h=>by
  simp only[uU,Bool.and_eq_true] at h
  rw[nbE h.1,qe h.2]
 |[],_::_,h=>by cases h
 |_::_,[],h=>by cases h
def eqq(x y:AV):Bool:=match x,y with
 | .d (.v (.int k a)), .d (.v (.int k' b))=>bif decide (k=k') then decide (a=b) else false
 | .os i o, .os j p=>Nat.beq i j&&Nat.beq o p
 |x,y=>nP x y
theorem wS{x y:AV}(h:eqq x y=true):x=y:=by
 unfold eqq at h
 split at h
 ·obtain⟨h1,h2⟩:=tl h
  rw[of_decide_eq_true h1,of_decide_eq_true h2]
 ·rw[Bool.and_eq_true] at h
  rw[nbE h.1,nbE h.2]
 ·exact iD h
def re:List AV→List AV→Bool
 |[],[]=>true
 |x::xs,y::ys=>bif eqq x y then re xs ys else false
 |_,_=>false
theorem mF:∀{a b:List AV},re a b=true→a=b
 |[],[],_=>rfl
 |x::xs,y::ys,h=>by
  obtain⟨h1,h2⟩:=tl (show(bif eqq x y then re xs ys else false)=true from h)
  rw[wS h1,mF h2]
 |[],_::_,h=>by cases h
 |_::_,[],h=>by cases h
def qd:List (List AV)→List (List AV)→Bool
 |[],[]=>true
 |x::xs,y::ys=>bif re x y then qd xs ys else false
 |_,_=>false
theorem nN:∀{a b:List (List AV)},qd a b=true→a=b
 |[],[],_=>rfl
 |x::xs,y::ys,h=>by
  obtain⟨h1,h2⟩:=tl (show(bif re x y then qd xs ys else false)=true from h)
  rw[mF h1,nN h2]
 |[],_::_,h=>by cases h
 |_::_,[],h=>by cases h
def wV:AO→AO→Bool
 | .row T cs, .row T' cs'=>Nat.beq T T'&&re cs cs'
 | .os T k v es, .os T' k' v' es'=>Nat.beq T T'&&(Nat.beq k k'&&(Nat.beq v v'&&qd es es'))
 | .mb es xs c, .mb es' xs' c'=>Nat.beq c c'&&(uV es es'&&eqAVs xs xs')
 | .it s a b c, .it s' a' b' c'=>nP s s'&&(Nat.beq a a'&&(Nat.beq c c'&&uU b b'))
 | .dead, .dead=>true
 |_,_=>false
theorem uW{a b:AO}(h:wV a b=true):a=b:=by
 unfold wV at h
 split at h
 ·rw[Bool.and_eq_true] at h
  rw[nbE h.1,mF h.2]
 ·simp only[Bool.and_eq_true] at h
  rw[nbE h.1,nbE h.2.1,nbE h.2.2.1,nN h.2.2.2]
 ·simp only[Bool.and_eq_true] at h
  rw[nbE h.1,qf h.2.1,eqAVs_ok h.2.2]
 ·simp only[Bool.and_eq_true] at h
  rw[iD h.1,nbE h.2.1,nbE h.2.2.1,qe h.2.2.2]
 ·rfl
 ·cases h
def gD:List AO→List AO→Bool
 |[],[]=>true
 |x::xs,y::ys=>wV x y&&gD xs ys
 |_,_=>false
theorem fW:∀{a b:List AO},gD a b=true→a=b
 |[],[],_=>rfl
 |x::xs,y::ys,h=>by
  simp only[gD,Bool.and_eq_true] at h
  rw[uW h.1,fW h.2]
 |[],_::_,h=>by cases h
 |_::_,[],h=>by cases h
theorem mA{F:Env}:∀{env:Env}{t:Nat}{x:AV},env.get t=some x→(env++F).get t=some x
 |[],t,x,h=>by cases h
 |(k,v)::env,t,x,h=>by
  show(bif Nat.beq t k then some v else Env.get (env++F) t)=some x
  have h:(bif Nat.beq t k then some v else Env.get env t)=some x:=h
  cases hb:Nat.beq t k with
  |true=>rw[hb] at h;exact h
  |false=>rw[hb] at h;exact mA h
theorem EnvOk.app{m:List Cz}{φ:Nat→Nat}{w:World}{env F:Env}{a:Act}(h:EnvOk m φ w (env++F) a):EnvOk m φ w env a:=⟨λt x hx=>h.get t x (mA hx),h.gl⟩
theorem mn{env F:Env}{x:Operand}{r:AV}(h:opv env x=some r):opv (env++F) x=some r:=by
 cases x with
 |tmp t=>exact mA h
 |_=>exact h
section
variable{P:Program}{env F:Env}{st st':List AO}{o:Oper}{r:AV}
theorem Yields.app(h:Yields P env st o r):Yields P (env++F) st o r:=λm φ a w hs he=>h m φ a w hs he.app
theorem Does.app(h:Does P env st o r st'):Does P (env++F) st o r st':=λm φ a w hs he=>h m φ a w hs he.app
end
theorem ke{env F:Env}:∀{l:List Operand}{xs:List AV},br env l=some xs→br (env++F) l=some xs
 |[],xs,h=>h
 |x::l,xs,h=>by
  unfold br at h⊢
  split at h
  ·rename_i h1 h2
   rw[mn h1,ke h2]
   exact h
  ·cases h
theorem Wt.app{ops:Array Oper}{env F:Env}{o:Oper}{b:Bool}(h:Wt ops env o b):Wt ops (env++F) o b:=λm φ w a he=>h m φ w a he.app
def j8(o:Oper)(r:AV)(env:Env):Env:=match o.dst with
 |some d=>(d,r)::env
 |none=>env
class PC(P:Program) where
 pc:FuncId→List AV→Option AV
 ok:∀f asz r st,pc f asz=some r→Ctr P f asz st (λr' s'=>r'=r∧s'=st)
def purX(P:Program)[PC P](env:Env):Op→Option AV
 | .call c=>(match c.callee with
  | .value x=>(match opv env x,br env c.args.toList with
   |some (.fn (.func f) first caps),some asz=>PC.pc P f (first++asz++caps)
   |_,_=>none)
  |_=>none)
 |_=>none
def exP(P:Program)[PC P](t:Ty)(ops:Array Oper)(env:Env)(st:List AO)(o:Oper):Option AV:=
 match fy ops env o.guard with
 |none=>none
 |some false=>some (.d (.v undef))
 |some true=>match exY P t env st o.op with
  |some r=>(match o.dst with
   |some _=>some r
   |none=>none)
  |none=>(match purX P env o.op with
   |some r=>(match o.dst with
    |some _=>some r
    |none=>none)
   |none=>none)
def nM(P:Program)[PC P](t:Ty)(call:bl)(ops:Array Oper)(env:Env)(st:List AO)(o:Oper):Option (AV×List AO):=
 match exP P t ops env st o with
 |some r=>some (r,st)
 |none=>match fy ops env o.guard with
  |some true=>(match exD P env st o.op with
   |some rs=>some rs
   |none=>(match qk call env st o.op,o.dst with
    |some rs,some _=>some rs
    |_,_=>none))
  |_=>none
section
variable{P:Program}[PC P]{t:Ty}{call:bl}{e:En}{ops:Array Oper}{l:List Oper}{R:Env→List AO→Prop}{env F:Env}{st st':List AO}{o:Oper}{r:AV}
theorem sQ(ht:t.ok P=true)(hd:∀d,o.dst=some d→Nat.ble (d+1) e.n=true)(h:exP P t ops env st o=some r)(k:WL P e ops l (j8 o r (env++F)) st R):WL P e ops (o::l) (env++F) st R:=by
 unfold exP at h
 split at h
 ·cases h
 ·rename_i hw
  obtain rfl:=inS h
  unfold j8 at k
  split at k
  ·rename_i d hdd;exact WL.skip (bO hw).app hdd (hd d hdd) k
  ·rename_i hdd;exact WL.skip0 (bO hw).app hdd k
 ·rename_i hw
  split at h
  ·rename_i r' hr
   split at h
   ·rename_i d hdd
    obtain rfl:=inS h
    unfold j8 at k
    rw[hdd] at k
    obtain⟨od,oop,oty,opos,oaf,og⟩:=o
    exact WL.q (sP ht hr).app (bP hw).app hdd (hd d hdd) k
   ·cases h
  ·split at h
   ·rename_i r' hr
    split at h
    ·rename_i d hdd
     obtain rfl:=inS h
     unfold j8 at k
     rw[hdd] at k
     unfold purX at hr
     split at hr
     ·rename_i c hop
      split at hr
      ·rename_i x hx
       split at hr
       ·rename_i f first caps asz hf has
        refine WL.call (Q:=λa b=>a=r'∧b=st) hop hx (mn hf) (ke has) (PC.ok _ _ _ _ hr) (Les.refl _) (bP hw).app hdd (hd d hdd) λa b hq=>?_
        obtain⟨rfl,rfl⟩:=hq
        exact k
       ·cases hr
      ·cases hr
     ·cases hr
    ·cases h
   ·cases h
theorem qa(ht:t.ok P=true)(hc:bM P call)(hd:∀d,o.dst=some d→Nat.ble (d+1) e.n=true)(h:nM P t call ops env st o=some (r,st'))(k:WL P e ops l (j8 o r (env++F)) st' R):WL P e ops (o::l) (env++F) st R:=by
 unfold nM at h
 split at h
 ·rename_i hp
  simp only[af,Prod.mk.injEq] at h
  obtain⟨rfl,rfl⟩:=h
  exact sQ ht hd hp k
 ·split at h
  ·rename_i hw
   have hw:=(bP hw).app (F:=F)
   split at h
   ·rename_i rs hr
    obtain rfl:=inS h
    unfold j8 at k
    split at k
    ·rename_i d hdd
     obtain⟨od,oop,oty,opos,oaf,og⟩:=o
     exact WL.s (mE hr).app hw hdd (hd d hdd) k
    ·rename_i hdd
     obtain⟨od,oop,oty,opos,oaf,og⟩:=o
     exact WL.s0 (mE hr).app hw hdd k
   ·split at h
    ·rename_i rs d hr hdd
     obtain rfl:=inS h
     unfold j8 at k
     rw[hdd] at k
     unfold qk at hr
     split at hr
     ·rename_i c hop
      split at hr
      ·rename_i x hx
       split at hr
       ·rename_i f first caps asz hf has
        refine WL.call (Q:=λr' s'=>r'=r∧s'=st') hop hx (mn hf) (ke has) (hc _ _ _ _ _ hr) (Les.refl _) hw hdd (hd d hdd) λr' s' hq=>?_
        obtain⟨rfl,rfl⟩:=hq
        exact k
       ·cases hr
      ·cases hr
     ·cases hr
    ·cases h
  ·cases h
end
def opT:List Operand→List Nat
 |[]=> []
 | .tmp t::l=>t::opT l
 |_::l=>opT l
def opsOf:Op→List Operand
 | .move x=> [x]
 | .assign x=> [x]
 | .pick c x y=> [c,x,y]
 | .load _ x=> [x]
 | .fieldAddr _ x _=> [x]
 | .field _ x _=> [x]
 | .nilCheck x=> [x]
 | .extract x _=> [x]
 | .unOp _ _ x=> [x]
 | .binOp _ _ x y _=> [x,y]
 | .convert _ _ x=> [x]
 | .makeFunc _ a b=>a.toList++b.toList
 | .indexAddr _ x y=> [x,y]
 | .index _ x y=> [x,y]
 | .box _ x=> [x]
 | .store _ x y=> [x,y]
 | .makeSlice _ x y=> [x,y]
 | .buildSlice _ _ ps=>ps.toList.map (·.2)
 | .build _ ps=>ps.toList.map (·.2)
 | .lookup _ x k _=> [x,k]
 | .insert _ x k v=> [x,k,v]
 | .mapUpdate _ x k v=> [x,k,v]
 | .range _ x=> [x]
 | .entry x=> [x]
 | .slice _ x lo hi _=>x::(lo.toList++hi.toList)
 | .call c=>(match c.callee with
  | .value x=>x::c.args.toList
  |_=>c.args.toList)
 |_=> []
def pU(l:List Oper)(x:Nat):Nat→Nat→Option Nat→Option Nat
 |0,_,acc=>acc
 |n+1,j,acc=>pU l x n (j+1) (match l[j]? with
  |some o=>bif o.dst==some x then some j else acc
  |none=>acc)
def eX(l:List Oper)(k:Nat):List Nat→List Nat×List Nat
 |[]=>([],[])
 |x::xs=>match pU l x k 0 none with
  |some j=>(j::(eX l k xs).1,(eX l k xs).2)
  |none=>((eX l k xs).1,x::(eX l k xs).2)
def cJ(l:List Oper)(o:Oper):List Nat:=(match o.guard with
 |some (j,_)=>(match(l[j]?).bind (·.dst) with
  |some d=> [d]
  |none=> [])
 |none=> [])++opT (opsOf o.op)
def csX(tc:List (List Nat))(es:List Nat)(k:Nat):List Nat:=(List.range (es.length+1)).filter λc=>
 !(match es[c]? with
  |some y=>(tc.getD k []).contains y
  |none=>false)&& !((es.take c).any λy=>Nat.beq y k||(tc.getD y []).contains k)
def gA(l:List Oper)(tc:List (List Nat))(es:List Nat):Nat→List Oper→List (List Nat×List Nat×List Nat)
 |_,[]=> []
 |k,o::ol=>let p:=eX l k (cJ l o);(p.1,p.2,csX tc es k)::gA l tc es (k+1) ol
def sB:Op→Bool
 | .call _=>true
 |_=>false
def okR(o:Oper)(rs:List AV)(k:Nat)(r:AV):Bool:=match o.dst with
 |some _=>(match rs[k]? with
  |some r'=>nP r r'
  |none=>false)
 |none=>true
section
variable{P:Program}[PC P]{t:Ty}{nt:Nat}{call:bl}{e:En}{l:List Oper}{rs:List AV}{base:Env}{es:List Nat}{L:List (List AO)}
theorem qh{ops:Array Oper}{env:Env}{st' stc:List AO}{o:Oper}{k:Nat}{r:AV}(hr:okR o rs k r=true)(hst:st'=stc):
  WL P e ops [] (j8 o r env) st' (λenv' st''=>st''=stc∧∃pre,env'=pre++env∧(∀t x,pre.get t=some x→o.dst=some t)∧∀d' r',o.dst=some d'→rs[k]? =some r'→pre.get d'=some r'):=by
 unfold okR at hr
 unfold j8
 split at hr
 ·rename_i d hd
  split at hr
  ·rename_i r' hr'
   obtain rfl:=iD hr
   rw[hd]
   have:=ga (P:=P) (e:=e) (ops:=ops) (env:=env) hd hr' hst
   rw[hd] at this
   exact this
  ·cases hr
 ·rename_i hd
  rw[hd]
  have:=cZ (P:=P) (e:=e) (rs:=rs) (ops:=ops) (env:=env) (k:=k) hd hst
  rw[hd] at this
  exact this
end
def cn(es:List Nat)(k:Nat):Nat:=(es.filter λy=>Nat.blt y k).length
def jy(P:Program)[PC P](t:Ty)(q:Bool)(call:bl)(l:List Oper)(base:Env):List Oper→Nat→List AV→List Nat→List (List AO)→List AO→Option (List AV×List Nat×List (List AO))
 |[],_,rs,es,L,_=>some (rs,es,L)
 |o::ol,k,rs,es,L,st=>bif (eX l k (cJ l o)).1.all (λj=>Nat.blt j k) then
   cx (eB l rs base (eX l k (cJ l o)).1 (eX l k (cJ l o)).2) (λev=>match exP P t l.toArray ev st o with
   |some r=>cx (rs++ [r]) λrs'=>jy P t q call l base ol (k+1) rs' es L st
   |none=>(match nM P t call l.toArray ev st o with
    |some (r,st')=>bif q&&(sB o.op&&gD st' st) then cx (rs++ [r]) λrs'=>jy P t q call l base ol (k+1) rs' es L st
     else cx (rs++ [r]) λrs'=>cx (es++ [k]) λes'=>cx (L++ [st']) λL'=>jy P t q call l base ol (k+1) rs' es' L' st'
    |none=>none)) else none
def mN(P:Program)[PC P](t:Ty)(call:bl)(l:List Oper)(base:Env)(rs:List AV)(es:List Nat)(L:List (List AO))(j:Nat)(o:Oper):Prop:=
 ∃r,nM P t call l.toArray (eB l rs base (eX l j (cJ l o)).1 (eX l j (cJ l o)).2) (L.getD (cn es j) []) o=some (r,L.getD (bif es.contains j then cn es j+1 else cn es j) [])∧rs[j]? =some r
section
variable{P:Program}[PC P]{t:Ty}{call:bl}{l:List Oper}{base:Env}
theorem qg{rs rs':List AV}{tail:Env}:∀{pk:List Nat},(∀j∈pk,j<rs.length)→ekP l (rs++rs') tail pk=ekP l rs tail pk
 |[],_=>rfl
 |j::pk,h=>by
  have h1:eko l (rs++rs') j=eko l rs j:=by
   unfold eko
   rw[List.getElem?_append_left (h j List.mem_cons_self)]
  unfold ekP
  rw[h1,qg λj' hj=>h j' (List.mem_cons_of_mem _ hj)]
theorem nQ{rs rs':List AV}{pk bk:List Nat}(h:∀j∈pk,j<rs.length):eB l (rs++rs') base pk bk=eB l rs base pk bk:=qg h
theorem n5{es es':List Nat}{k:Nat}(h1:∀y∈es,y<k)(h2:∀y∈es',k≤y):cn (es++es') k=es.length:=by
 unfold cn
 rw[List.filter_append,List.filter_eq_self.2 (λy hy=>by simpa[Nat.blt_eq] using h1 y hy),List.filter_eq_nil_iff.2 (λy hy=>by have:=h2 y hy;simp[Nat.blt_eq];omega)]
 simp
theorem nH{α:Type}{L L':List α}{n:Nat}{d:α}(h:n<L.length):(L++L').getD n d=L.getD n d:=by
 rw[List.getD_eq_getElem?_getD,List.getD_eq_getElem?_getD,List.getElem?_append_left h]
theorem nL{ops:Array Oper}{env:Env}{st:List AO}{o:Oper}{r:AV}(h:exP P t ops env st o=some r):nM P t call ops env st o=some (r,st):=by
 unfold nM;rw[h]
theorem kb{q:Bool}:∀{ol:List Oper}{k:Nat}{rs:List AV}{es:List Nat}{L:List (List AO)}{st:List AO}{rsF:List AV}{esF:List Nat}{LF:List (List AO)},jy P t q call l base ol k rs es L st=some (rsF,esF,LF)→
  ol=l.drop k→rs.length=k→(∀y∈es,y<k)→L.length=es.length+1→L.getD es.length []=st→
  (∃rs',rsF=rs++rs'∧rs'.length=ol.length)∧(∃es',esF=es++es'∧∀y∈es',k≤y)∧(∃L',LF=L++L')∧LF.length=esF.length+1∧∀(j:Nat)(o:Oper),k≤j→l[j]? =some o→mN P t call l base rsF esF LF j o
 |[],k,rs,es,L,st,rsF,esF,LF,h,hol,hrs,hes,hL,hst=>by
  simp only[jy,af,Prod.mk.injEq] at h
  obtain⟨rfl,rfl,rfl⟩:=h
  refine⟨⟨[],sM,rfl⟩,⟨[],sM,λy hy=>by cases hy⟩,⟨[],sM⟩,hL,λj o hj ho=>?_⟩
  have:l.length≤k:=by
   have:=congrArg List.length hol
   rw[List.length_drop] at this
   simp at this
   omega
  have:=(giS.1 ho).1
  omega
 |o::ol,k,rs,es,L,st,rsF,esF,LF,h,hol,hrs,hes,hL,hst=>by
  unfold jy at h
  obtain⟨hpk,h⟩:=bK h
  simp only[ct] at h
  have hpk':∀j∈(eX l k (cJ l o)).1,j<rs.length:=λj hj=>by
   have:=List.all_eq_true.1 hpk j hj
   rw[hrs]
   simpa[Nat.blt_eq] using this
  have hok:l[k]? =some o:=by
   have:(l.drop k)[0]? =some o:=by rw[←hol];rfl
   simpa using this
  have hol':ol=l.drop (k+1):=by
   have:(o::ol).drop 1=(l.drop k).drop 1:=by rw[hol]
   rw[List.drop_drop] at this
   simpa[Nat.add_comm] using this
  have hes1:∀y∈es,y<k+1:=λy hy=>Nat.lt_succ_of_lt (hes y hy)
  -- a quiet operation
  have quiet:∀{r:AV},nM P t call l.toArray (eB l rs base (eX l k (cJ l o)).1 (eX l k (cJ l o)).2) st o=some (r,st)→jy P t q call l base ol (k+1) (rs++ [r]) es L st=some (rsF,esF,LF)→
    (∃rs',rsF=rs++rs'∧rs'.length=(o::ol).length)∧(∃es',esF=es++es'∧∀y∈es',k≤y)∧(∃L',LF=L++L')∧LF.length=esF.length+1∧∀(j:Nat)(o:Oper),k≤j→l[j]? =some o→mN P t call l base rsF esF LF j o:=λ{r} he hp=>by
   obtain⟨⟨rs',e1,e2⟩,⟨es',e3,e4⟩,⟨L',e5⟩,e6,e7⟩:=kb hp hol' (by simp[hrs]) hes1 hL hst
   refine⟨⟨r::rs',by rw[e1];simp,by simp[e2]⟩,⟨es',e3,λy hy=>Nat.le_of_succ_le (e4 y hy)⟩,⟨L',e5⟩,e6,λj o' hj ho'=>?_⟩
   rcases Nat.lt_or_ge k j with hj'|hj'
   ·exact e7 j o' hj' ho'
   ·have:j=k:=oM
    subst this
    rw[hok] at ho'
    obtain rfl:=inS ho'
    have hc:cn esF j=es.length:=by rw[e3];exact n5 hes λy hy=>Nat.le_of_succ_le (e4 y hy)
    have hn:esF.contains j=false:=by
     rw[e3,List.contains_eq_mem,decide_eq_false_iff_not,List.mem_append]
     rintro(hm|hm)
     ·exact absurd (hes j hm) (Nat.lt_irrefl _)
     ·exact absurd (e4 j hm) oM
    refine⟨r,?_,by rw[e1,List.append_assoc,List.getElem?_append_right oM,hrs];simp⟩
    rw[hn,cdF,hc,e5,nH oM,hst,e1,List.append_assoc,nQ hpk']
    exact he
  split at h
  ·rename_i r hr
   exact quiet (nL hr) h
  ·split at h
   ·rename_i r st' hr
    cases hq:q&&(sB o.op&&gD st' st) with
    |true=>
     rw[hq,cdT] at h
     rw[Bool.and_eq_true,Bool.and_eq_true] at hq
     have:=fW hq.2.2
     subst this
     exact quiet hr h
    |false=>
     rw[hq,cdF] at h
     obtain⟨⟨rs',e1,e2⟩,⟨es',e3,e4⟩,⟨L',e5⟩,e6,e7⟩:=kb h hol' (by simp[hrs]) (λy hy=>by
      rcases List.mem_append.1 hy with hy|hy
      ·exact hes1 y hy
      ·rw[List.mem_singleton.1 hy];exact Nat.lt_succ_self k) (by simp[hL]) (by rw[List.length_append,List.getD_eq_getElem?_getD,List.getElem?_append_right (by simp;omega)];simp[hL])
     refine⟨⟨r::rs',by rw[e1];simp,by simp[e2]⟩,⟨k::es',by rw[e3];simp,λy hy=>?_⟩,⟨st'::L',by rw[e5];simp⟩,e6,λj o' hj ho'=>?_⟩
     ·rcases List.mem_cons.1 hy with rfl|hy
      ·exact Nat.le_refl _
      ·exact Nat.le_of_succ_le (e4 y hy)
     ·rcases Nat.lt_or_ge k j with hj'|hj'
      ·exact e7 j o' hj' ho'
      ·have:j=k:=oM
       subst this
       rw[hok] at ho'
       obtain rfl:=inS ho'
       have e3':esF=es++(j::es'):=by rw[e3];simp
       have e5':LF=L++(st'::L'):=by rw[e5];simp
       have hc:cn esF j=es.length:=by
        rw[e3']
        refine n5 hes λy hy=>?_
        rcases List.mem_cons.1 hy with rfl|hy
        ·exact Nat.le_refl _
        ·exact Nat.le_of_succ_le (e4 y hy)
       have hn:esF.contains j=true:=by rw[e3',List.contains_eq_mem,decide_eq_true_eq];simp
       refine⟨r,?_,by rw[e1,List.append_assoc,List.getElem?_append_right oM,hrs];simp⟩
       rw[hn,cdT,hc,e1,List.append_assoc,nQ hpk']
       have h1:LF.getD es.length []=st:=by rw[e5',nH oM,hst]
       have h2:LF.getD (es.length+1) []=st':=by
        rw[e5',List.getD_eq_getElem?_getD,List.getElem?_append_right oM]
        simp[hL]
       rw[h1,h2]
       exact hr
   ·cases h
end
def wX(nt:Nat)(o:Oper):Bool:=match o.dst with
 |some d=>Nat.ble (d+1) nt
 |none=>true
def w3(P:Program)[PC P](t:Ty)(call:bl)(l:List Oper)(rs:List AV)(base:Env)(es:List Nat)(L:List (List AO))(k:Nat)(o:Oper)(p:List Nat×List Nat×List Nat)(c:Nat):Bool:=
 Nat.beq c (cn es k)||(!(es.contains k)&&(match exP P t l.toArray (eB l rs base p.1 p.2.1) (L.getD c []) o with
  |some r=>okR o rs k r
  |none=>(match nM P t call l.toArray (eB l rs base p.1 p.2.1) (L.getD c []) o with
   |some (r,st')=>okR o rs k r&&gD st' (L.getD c [])
   |none=>false)))
def tY(P:Program)[PC P](t:Ty)(nt:Nat)(call:bl)(l:List Oper)(rs:List AV)(base:Env)(es:List Nat)(L:List (List AO)):Nat→List Oper→List (List Nat×List Nat×List Nat)→Bool
 |k,o::ol,p::ps=>wX nt o&&((p.2.2.all λc=>w3 P t call l rs base es L k o p c)&&tY P t nt call l rs base es L (k+1) ol ps)
 |_,_,_=>true
section
variable{P:Program}[PC P]{t:Ty}{nt:Nat}{call:bl}{e:En}{l:List Oper}{rs:List AV}{base:Env}{es:List Nat}{L:List (List AO)}
theorem lh{tc:List (List Nat)}:∀{ol:List Oper}{k j:Nat}{o:Oper},ol[j]? =some o→(gA l tc es k ol)[j]? =some ((eX l (k+j) (cJ l o)).1,(eX l (k+j) (cJ l o)).2,csX tc es (k+j))
 |o0::ol,k,0,o,h=>by
  obtain rfl:=inS h
  rfl
 |o0::ol,k,j+1,o,h=>by
  have:=lh (tc:=tc) (ol:=ol) (k:=k+1) (j:=j) (o:=o) (by simpa using h)
  rw[show k+(j+1)=k+1+j by omega]
  exact this
 |[],_,_,_,h=>by simp at h
theorem uY{ops:Array Oper}{env:Env}{st' stc:List AO}{o:Oper}{k:Nat}{r:AV}(hr:rs[k]? =some r)(hst:st'=stc):
  WL P e ops [] (j8 o r env) st' (λenv' st''=>st''=stc∧∃pre,env'=pre++env∧(∀t x,pre.get t=some x→o.dst=some t)∧∀d' r',o.dst=some d'→rs[k]? =some r'→pre.get d'=some r'):=by
 unfold j8
 split
 ·rename_i d hd
  have:=ga (P:=P) (e:=e) (ops:=ops) (env:=env) hd hr hst
  rw[hd] at this
  rw[hd]
  exact this
 ·rename_i hd
  have:=cZ (P:=P) (e:=e) (rs:=rs) (ops:=ops) (env:=env) (k:=k) hd hst
  rw[hd] at this
  rw[hd]
  exact this
theorem pP{sts:Nat→List AO}{k:Nat}{o:Oper}{pk bk:List Nat}{up:Bool}:∀{cs:List Nat},(∀c∈cs,Ob P e l rs base sts k o pk bk c (bif up then c+1 else c))→ObC P e l rs base sts k o pk bk up cs
 |[],_=>trivial
 |c::cs,h=>⟨h c List.mem_cons_self,pP λc' hc=>h c' (List.mem_cons_of_mem _ hc)⟩
theorem u6(ht:t.ok P=true)(hc:bM P call)(hn:e.n=nt){k c:Nat}{o:Oper}{p:List Nat×List Nat×List Nat}(hp:mN P t call l base rs es L k o)(hpp:p.1=(eX l k (cJ l o)).1∧p.2.1=(eX l k (cJ l o)).2)(h0:wX nt o=true)
  (h:w3 P t call l rs base es L k o p c=true):Ob P e l rs base (λc=>L.getD c []) k o p.1 p.2.1 c (bif es.contains k then c+1 else c):=λF=>by
 have hd:∀d,o.dst=some d→Nat.ble (d+1) e.n=true:=λd hd=>by unfold wX at h0;rw[hd] at h0;rw[hn];exact h0
 unfold w3 at h
 rw[Bool.or_eq_true] at h
 rcases h with h|h
 ·have:=nbE h
  subst this
  obtain⟨r,h1,h2⟩:=hp
  rw[hpp.1,hpp.2]
  exact qa ht hc hd h1 (uY h2 rfl)
 ·rw[Bool.and_eq_true,Bool.not_eq_true'] at h
  rw[h.1,cdF]
  have h:=h.2
  split at h
  ·rename_i r hr
   exact sQ ht hd hr (qh h rfl)
  ·split at h
   ·rename_i r st' hr
    rw[Bool.and_eq_true] at h
    exact qa ht hc hd hr (qh h.1 (fW h.2))
   ·cases h
theorem pO(ht:t.ok P=true)(hc:bM P call)(hn:e.n=nt){tc:List (List Nat)}(hp:∀(j:Nat)(o:Oper),l[j]? =some o→mN P t call l base rs es L j o):∀{ol:List Oper}{ps:List (List Nat×List Nat×List Nat)}{k:Nat},ol=l.drop k→ps=(gA l tc es 0 l).drop k→tY P t nt call l rs base es L k ol ps=true→
  Obs P e l rs base (λc=>L.getD c []) es k ol ps
 |[],_,_,_,_,_=>trivial
 |_::_,[],_,_,_,_=>trivial
 |o::ol,p::ps,k,h1,h2,h=>by
  unfold tY at h
  rw[Bool.and_eq_true,Bool.and_eq_true] at h
  have ho:l[k]? =some o:=by
   have:(l.drop k)[0]? =some o:=by rw[←h1];rfl
   simpa using this
  have hpl:(gA l tc es 0 l)[k]? =some p:=by
   have:((gA l tc es 0 l).drop k)[0]? =some p:=by rw[←h2];rfl
   simpa using this
  have hpe:p=((eX l k (cJ l o)).1,(eX l k (cJ l o)).2,csX tc es k):=by
   have:=lh (l:=l) (tc:=tc) (es:=es) (k:=0) ho
   rw[Nat.zero_add,hpl] at this
   exact inS this
  have h1':ol=l.drop (k+1):=by
   have:(o::ol).drop 1=(l.drop k).drop 1:=by rw[h1]
   rw[List.drop_drop] at this
   simpa[Nat.add_comm] using this
  have h2':ps=(gA l tc es 0 l).drop (k+1):=by
   have:(p::ps).drop 1=((gA l tc es 0 l).drop k).drop 1:=by rw[h2]
   rw[List.drop_drop] at this
   simpa[Nat.add_comm] using this
  exact⟨pP λc hcm=>u6 ht hc hn (hp k o ho) (by rw[hpe];exact⟨rfl,rfl⟩) h.1 (List.all_eq_true.1 h.2.1 c hcm),pO ht hc hn hp h1' h2' h.2.2⟩
end
def uS(P:Program)[PC P](t:Ty)(q:Bool)(nt:Nat)(call:bl)(l:List Oper)(base:Env)(st:List AO):Option (Env×List AO):=
 match jy P t q call l base l 0 [] [] [st] st with
 |some (rs,es,L)=>bif P.follows .mixedOrders&&(jE l (tcF l) es (gA l (tcF l) es 0 l)&&(Nat.beq rs.length l.length&&(es.all (λy=>Nat.blt y l.length)&&(tY P t nt call l rs base es L 0 l (gA l (tcF l) es 0 l)&&bi l))))
   then cx (FL base (λk=>Nat.blt k l.length) (bw l rs 0)) (λev=>some (ev,L.getD es.length [])) else none
 |none=>none
theorem qc{P:Program}[PC P]{t:Ty}{q:Bool}{nt:Nat}{call:bl}{e:En}(ht:t.ok P=true)(hc:bM P call)(hn:e.n=nt){l:List Oper}{base env':Env}{st st':List AO}{id:Nat}{κ:Ko}(h:uS P t q nt call l base st=some (env',st'))(k:WE P e .normal κ env' st'):WC P e (.region id l.toArray true) κ base st:=by
 unfold uS at h
 split at h
 ·rename_i rs es L hs
  obtain⟨hh,h⟩:=bK h
  rw[ct] at h
  simp only[af,Prod.mk.injEq] at h
  obtain⟨rfl,rfl⟩:=h
  simp only[Bool.and_eq_true] at hh
  obtain⟨c1,c2,c3,c4,c5,c6⟩:=hh
  obtain⟨_,_,⟨L',h0⟩,_,hp⟩:=kb hs sM rfl (λy hy=>by cases hy) rfl rfl
  exact gw rs (tcF l) es (λc=>L.getD c []) (gA l (tcF l) es 0 l) c1 c2 c3 c4 (by show L.getD 0 []=st;rw[h0];rfl) (pO (tc:=tcF l) ht hc hn (λj o ho=>hp j o (Nat.zero_le _) ho) sM sM c5) k c6
 ·cases h
def exA(P:Program)[PC P](t:Ty)(nt:Nat)(call:bl)(l:List Oper)(base:Env)(st:List AO):Option (Env×List AO):=match uS P t false nt call l base st with
 |some r=>some r
 |none=>uS P t true nt call l base st
theorem sV{P:Program}[PC P]{t:Ty}{nt:Nat}{call:bl}{e:En}(ht:t.ok P=true)(hc:bM P call)(hn:e.n=nt){l:List Oper}{base env':Env}{st st':List AO}{id:Nat}{κ:Ko}(h:exA P t nt call l base st=some (env',st'))(k:WE P e .normal κ env' st'):WC P e (.region id l.toArray true) κ base st:=by
 unfold exA at h
 split at h
 ·rename_i hr
  obtain rfl:=inS h
  exact qc ht hc hn hr k
 ·exact qc ht hc hn h k
def mK(env:Env):List Nat→Option (List AV)
 |[]=>some []
 |t::l=>match env.get t,mK env l with
  |some x,some xs=>some (x::xs)
  |_,_=>none
theorem lG{env:Env}:∀{l:List Nat}{xs:List AV},mK env l=some xs→br env (l.map .tmp)=some xs
 |[],xs,h=>by obtain rfl:=inS h;rfl
 |t::l,xs,h=>by
  unfold mK at h
  split at h
  ·rename_i h1 h2
   obtain rfl:=inS h
   show(match env.get t,br env (l.map .tmp) with|some y,some ys=>some (y::ys)|_,_=>none)=_
   rw[h1,lG h2]
  ·cases h
def exC(P:Program)[PC P](t:Ty)(nt:Nat)(call:bl)(yld:jm)(top:Bool)(hook:db):Nat→Code→Env→List AO→Option (Exit×Env×List AO)
 |0,_,_,_=>none
 |n+1,c,env,st=>match c with
  | .skip=>some (.normal,env,st)
  | .ret=>some (.ret,env,st)
  | .exit i=>some (.exit i,env,st)
  | .seq x y=>(match exC P t nt call yld top hook n x env st with
   |some (.normal,env',st')=>exC P t nt call yld top hook n y env' st'
   |some (.ret,env',st')=>some (.ret,env',st')
   |some (.exit i,env',st')=>some (.exit i,env',st')
   |_=>none)
  | .block i x=>(match exC P t nt call yld top hook n x env st with
   |some (.normal,env',st')=>some (.normal,env',st')
   |some (.ret,env',st')=>some (.ret,env',st')
   |some (.exit j,env',st')=>bif Nat.beq j i then some (.normal,env',st') else some (.exit j,env',st')
   |_=>none)
  | .cond b x y=>(match(opv env b).bind n8 with
   |some true=>exC P t nt call yld top hook n x env st
   |some false=>exC P t nt call yld top hook n y env st
   |none=>none)
  | .region _ a false=>bif bi a.toList then(match exL P t nt call yld hook a a.toList env st with
   |some (env',st')=>some (.normal,env',st')
   |none=>none) else none
  | .region _ a true=>(match exA P t nt call a.toList env st with
   |some (env',st')=>some (.normal,env',st')
   |none=>none)
  | .loop x=>(match exC P t nt call yld top hook n x env st with
   |some (.normal,env',st')=>exC P t nt call yld top hook n (.loop x) env' st'
   |some (.ret,env',st')=>some (.ret,env',st')
   |some (.exit i,env',st')=>some (.exit i,env',st')
   |_=>none)
  | .rangeFunc g ps asg body=>bif top then(match opv env g,mK env (env.map (·.1)) with
   |some (.fn (.func f) first caps),some vs=>(match call f (first++ .yl st.length::caps) (st++ [.lp ⟨nt,env.map (·.1),ps.toList,asg,body⟩ vs .ready none]) with
    |some (_,st')=>(match st'[st.length]? with
     |some (.lp _ _ .ready none)=>some (.normal,env,st'.set st.length .dead)
     |some (.lp _ _ .done (some .ret))=>some (.ret,env,st'.set st.length .dead)
     |some (.lp _ _ .done (some (.exit i)))=>some (.exit i,env,st'.set st.length .dead)
     |_=>none)
    |none=>none)
   |_,_=>none) else none
  |_=>none
section
variable{P:Program}[PC P]{t:Ty}{nt:Nat}{call:bl}{yld:jm}{top:Bool}{hook:db}{e:En}
theorem jh(ht:t.ok P=true)(hc:bM P call)(hyl:kK P yld)(htop:top=true→e.rd=none∧e.ds=none)(hh:eC hook)(hn:e.n=nt):∀(n:Nat),
  (∀(c:Code)(env env':Env)(st st':List AO)(x:Exit)(κ:Ko),exC P t nt call yld top hook n c env st=some (x,env',st')→WE P e x κ env' st'→WC P e c κ env st)∧
  (∀(c:Code)(env env':Env)(st st':List AO)(x:Exit)(κ:Ko),exC P t nt call yld top hook n (.loop c) env st=some (x,env',st')→WE P e x κ env' st'→∃m,n=m+1∧WC P e c (.rl m c κ) env st)
 |0=>⟨λ_ _ _ _ _ _ _ h=>(by cases h),λ_ _ _ _ _ _ _ h=>(by cases h)⟩
 |n+1=>by
  obtain⟨iA,iB⟩:=jh ht hc hyl htop hh hn n
  have hB:∀(c:Code)(env env':Env)(st st':List AO)(x:Exit)(κ:Ko),exC P t nt call yld top hook (n+1) (.loop c) env st=some (x,env',st')→WE P e x κ env' st'→∃m,n+1=m+1∧WC P e c (.rl m c κ) env st:=by
   intro c env env' st st' x κ h k
   refine⟨n,rfl,?_⟩
   dsimp only[exC] at h
   split at h
   ·rename_i hx
    obtain⟨m,hm,hw⟩:=iB _ _ _ _ _ _ _ h k
    subst hm
    exact iA _ _ _ _ _ _ _ hx (gv hw)
   ·rename_i hx
    simp only[af,Prod.mk.injEq] at h
    obtain⟨rfl,rfl,rfl⟩:=h
    exact iA _ _ _ _ _ _ _ hx (bT k)
   ·rename_i hx
    simp only[af,Prod.mk.injEq] at h
    obtain⟨rfl,rfl,rfl⟩:=h
    exact iA _ _ _ _ _ _ _ hx (gO k)
   ·cases h
  refine⟨?_,hB⟩
  intro c env env' st st' x κ h k
  cases c with
  |loop c=>
   obtain⟨m,_,hw⟩:=hB _ _ _ _ _ _ _ h k
   exact iQ m hw
  |skip=>
   dsimp only[exC] at h
   simp only[af,Prod.mk.injEq] at h
   obtain⟨rfl,rfl,rfl⟩:=h
   exact l6 k
  |ret=>
   dsimp only[exC] at h
   simp only[af,Prod.mk.injEq] at h
   obtain⟨rfl,rfl,rfl⟩:=h
   exact oN k
  |exit i=>
   dsimp only[exC] at h
   simp only[af,Prod.mk.injEq] at h
   obtain⟨rfl,rfl,rfl⟩:=h
   exact l7 k
  |seq a b=>
   dsimp only[exC] at h
   split at h
   ·rename_i hx
    exact jX (iA _ _ _ _ _ _ _ hx (l4 (iA _ _ _ _ _ _ _ h k)))
   ·rename_i hx
    simp only[af,Prod.mk.injEq] at h
    obtain⟨rfl,rfl,rfl⟩:=h
    exact jX (iA _ _ _ _ _ _ _ hx (gN k))
   ·rename_i hx
    simp only[af,Prod.mk.injEq] at h
    obtain⟨rfl,rfl,rfl⟩:=h
    exact jX (iA _ _ _ _ _ _ _ hx (fp k))
   ·cases h
  |block i a=>
   dsimp only[exC] at h
   split at h
   ·rename_i hx
    simp only[af,Prod.mk.injEq] at h
    obtain⟨rfl,rfl,rfl⟩:=h
    exact eD (iA _ _ _ _ _ _ _ hx (oL k))
   ·rename_i hx
    simp only[af,Prod.mk.injEq] at h
    obtain⟨rfl,rfl,rfl⟩:=h
    exact eD (iA _ _ _ _ _ _ _ hx (gP k))
   ·rename_i j _ _ hx
    cases hb:Nat.beq j i with
    |true=>
     rw[hb] at h
     simp only[cdT,af,Prod.mk.injEq] at h
     obtain⟨rfl,rfl,rfl⟩:=h
     have:=nbE hb
     subst this
     exact eD (iA _ _ _ _ _ _ _ hx (gQ k))
    |false=>
     rw[hb] at h
     simp only[cdF,af,Prod.mk.injEq] at h
     obtain⟨rfl,rfl,rfl⟩:=h
     exact eD (iA _ _ _ _ _ _ _ hx (fw hb k))
   ·cases h
  |cond b x y=>
   dsimp only[exC] at h
   split at h
   ·rename_i hb
    obtain⟨z,h1,h2⟩:=aX hb
    rw[eJ h2] at h1
    exact d6 h1 (λ_=>iA _ _ _ _ _ _ _ h k) (λh=>by cases h)
   ·rename_i hb
    obtain⟨z,h1,h2⟩:=aX hb
    rw[eJ h2] at h1
    exact d6 h1 (λh=>by cases h) (λ_=>iA _ _ _ _ _ _ _ h k)
   ·cases h
  |region id a b=>
   cases b with
   |false=>
    dsimp only[exC] at h
    obtain⟨hd,h⟩:=bK h
    split at h
    ·rename_i hx
     simp only[af,Prod.mk.injEq] at h
     obtain⟨rfl,rfl,rfl⟩:=h
     exact iR (l:=a.toList) (pa ht hc hyl hh hn hx k) hd
    ·cases h
   |true=>
    dsimp only[exC] at h
    split at h
    ·rename_i hx
     simp only[af,Prod.mk.injEq] at h
     obtain⟨rfl,rfl,rfl⟩:=h
     exact sV (l:=a.toList) ht hc hn hx k
    ·cases h
  |rangeFunc g ps asg body=>
   dsimp only[exC] at h
   obtain⟨htp,h⟩:=bK h
   obtain⟨hrd,hds⟩:=htop htp
   split at h
   ·rename_i f first caps vs hg hvs
    split at h
    ·rename_i r1 st1 hx
     have hctr:=hc _ _ _ _ _ hx
     rw[←hn] at hctr
     refine k8 (env.map (·.1)) _ hrd hg (lG hvs) hctr (λr' s' hq=>?_) hds
     obtain⟨rfl,rfl⟩:=hq
     split at h
     ·rename_i hl
      simp only[af,Prod.mk.injEq] at h
      obtain⟨rfl,rfl,rfl⟩:=h
      exact⟨_,_,_,_,_,SLe.refl _,hl,sM,k⟩
     ·rename_i hl
      simp only[af,Prod.mk.injEq] at h
      obtain⟨rfl,rfl,rfl⟩:=h
      exact⟨_,_,_,_,_,SLe.refl _,hl,sM,k⟩
     ·rename_i hl
      simp only[af,Prod.mk.injEq] at h
      obtain⟨rfl,rfl,rfl⟩:=h
      exact⟨_,_,_,_,_,SLe.refl _,hl,sM,k⟩
     ·cases h
    ·cases h
   ·cases h
  |_=>cases h
end
def rZ:jm:=λ_ _ _=>none
theorem is{P:Program}:kK P rZ:=λ_ _ _ _ _ h=>by cases h
def vN(P:Program)[PC P](t:Ty)(call:bl)(hook:db)(fuel:Nat):jm:=λid asz st=>match st[id]? with
 |some (.lp s vs .ready _)=>bif Nat.beq asz.length s.ps.length&&(fK s.ps&&((s.ps.all λp=>Nat.blt p s.n)&&Nat.beq s.ts.length vs.length)) then
   (match exC P t s.n call rZ false hook fuel s.asg (List.zip s.ps asz++List.zip s.ts vs) st with
   |some (.normal,env1,st1)=>(match st1[id]? with
    |some (.lp s1 vs1 .ready pd1)=>(match exC P t s.n call rZ false hook fuel s.body env1 (st1.set id (.lp s1 vs1 .busy pd1)) with
     |some (.normal,_,st2)=>(match st2[id]? with
      |some (.lp s2 vs2 .busy _)=>some (.d (.v (.bool true)),st2.set id (.lp s2 vs2 .ready none))
      |_=>none)
     |some (.ret,_,st2)=>(match st2[id]? with
      |some (.lp s2 vs2 .busy _)=>some (.d (.v (.bool false)),st2.set id (.lp s2 vs2 .done (some .ret)))
      |_=>none)
     |some (.exit i,_,st2)=>(match st2[id]? with
      |some (.lp s2 vs2 .busy _)=>some (.d (.v (.bool false)),st2.set id (.lp s2 vs2 .done (some (.exit i))))
      |_=>none)
     |_=>none)
    |_=>none)
   |_=>none) else none
 |_=>none
theorem tK{P:Program}[PC P]{t:Ty}{call:bl}{hook:db}{fuel:Nat}(ht:t.ok P=true)(hc:bM P call)(hh:eC hook):kK P (vN P t call hook fuel):=by
 intro id asz st r st' h e ops rest o env R c x d hop hx hf has hw ho hd k
 unfold vN at h
 split at h
 ·rename_i s vs pd hs
  obtain⟨hq,h⟩:=bK h
  simp only[Bool.and_eq_true] at hq
  obtain⟨q1,q2,q3,q4⟩:=hq
  refine lJ (λr' s'=>r'=r∧s'=st') hop hx hf has hs q1 q2 q3 q4 (λe' hn' hrd' _=>?_) hw ho hd (λr' s' hq=>by obtain⟨rfl,rfl⟩:=hq;exact k)
  have hT:∀{b:Bool},(b=false)→b=true→e'.rd=none∧e'.ds=none:=λh1 h2=>by rw[h1] at h2;cases h2
  split at h
  ·rename_i env1 st1 hx1
   split at h
   ·rename_i s1 vs1 pd1 hs1
    refine(jh ht hc is (hT rfl) hh hn' fuel).1 _ _ _ _ _ _ _ hx1 (fx hrd' hs1 ?_)
    split at h
    ·rename_i env2 st2 hx2
     split at h
     ·rename_i hs2
      simp only[af,Prod.mk.injEq] at h
      obtain⟨rfl,rfl⟩:=h
      exact(jh ht hc is (hT rfl) hh hn' fuel).1 _ _ _ _ _ _ _ hx2 (dJ hrd' hs2 ⟨rfl,rfl⟩)
     ·cases h
    ·rename_i env2 st2 hx2
     split at h
     ·rename_i hs2
      simp only[af,Prod.mk.injEq] at h
      obtain⟨rfl,rfl⟩:=h
      exact(jh ht hc is (hT rfl) hh hn' fuel).1 _ _ _ _ _ _ _ hx2 (ce hrd' hs2 ⟨rfl,rfl⟩)
     ·cases h
    ·rename_i env2 st2 hx2
     split at h
     ·rename_i hs2
      simp only[af,Prod.mk.injEq] at h
      obtain⟨rfl,rfl⟩:=h
      exact(jh ht hc is (hT rfl) hh hn' fuel).1 _ _ _ _ _ _ _ hx2 (l5 hrd' hs2 ⟨rfl,rfl⟩)
     ·cases h
    ·cases h
   ·cases h
  ·cases h
 ·cases h
def rvX(P:Program)(env:Env)(st:List AO):ResultVar→Option AV
 | .tmp t=>env.get t
 | .cell p T=>match env.get p with
  |some (.pt id off)=>(match st[id]? with
   |some (.row _ cs)=>(match aE P T,aI P T with
    |some false,_=>cs[off]?
    |some true,some n=>bif Nat.ble (off+n) cs.length then some (.ag ((cs.drop off).take n)) else none
    |_,_=>none)
   |_=>none)
  |_=>none
def tU(P:Program)(env:Env)(st:List AO):List ResultVar→Option AV
 |[]=>some (.tu [])
 |[v]=>rvX P env st v
 |[v,u]=>match rvX P env st v,rvX P env st u with
  |some r,some s=>some (.tu [r,s])
  |_,_=>none
 |[v,u,z]=>match rvX P env st v,rvX P env st u,rvX P env st z with
  |some r,some s,some q=>some (.tu [r,s,q])
  |_,_,_=>none
 |_=>none
section
variable{P:Program}{env:Env}{st:List AO}
theorem iV{v:ResultVar}{r:AV}(h:rvX P env st v=some r):RV1 P env st v r:=by
 cases v with
 |tmp t=>exact bE h
 |cell p T=>
  dsimp only[rvX] at h
  split at h
  ·rename_i hp
   split at h
   ·rename_i hs
    split at h
    ·rename_i ha;exact jJ hp hs ha h
    ·rename_i ha hn
     obtain⟨hb,h⟩:=bK h
     obtain rfl:=inS h
     exact eE hp hs ha hn hb
    ·cases h
   ·cases h
  ·cases h
theorem pJ{fn:Func}{r:AV}(h:tU P env st fn.results.toList=some r):Res P fn env st r:=by
 have hl:∀L,fn.results.toList=L→fn.results=L.toArray:=λL hL=>by rw[←hL]
 unfold tU at h
 split at h
 ·rename_i hL
  obtain rfl:=inS h
  exact fG (hl _ hL)
 ·rename_i hL
  exact rs1 (hl _ hL) (iV h)
 ·rename_i hL
  split at h
  ·rename_i h1 h2
   obtain rfl:=inS h
   exact rs2 (hl _ hL) (iV h1) (iV h2)
  ·cases h
 ·rename_i hL
  split at h
  ·rename_i h1 h2 h3
   obtain rfl:=inS h
   exact rs3 (hl _ hL) (iV h1) (iV h2) (iV h3)
  ·cases h
 ·cases h
end
def bmax(a b:Nat):Nat:=bif Nat.ble a b then b else a
mutual
def AV.ids(n:Nat):AV→List Nat
 | .ag ps=>AV.idss n ps
 | .pt id _=>bif Nat.ble n id then[id] else[]
 | .sr id _ _ _=>bif Nat.ble n id then[id] else[]
 | .fn _ a b=>AV.idss n a++AV.idss n b
 | .mp id=>bif Nat.ble n id then[id] else[]
 | .tu l=>AV.idss n l
 | .os id _=>bif Nat.ble n id then[id] else[]
 | .pe id _ _=>bif Nat.ble n id then[id] else[]
 | .ow id _ _ _ _=>bif Nat.ble n id then[id] else[]
 | .ifc _ x=>x.ids n
 | .osf id _ _=>bif Nat.ble n id then[id] else[]
 | .pem id _ _ _=>bif Nat.ble n id then[id] else[]
 | .yl id=>bif Nat.ble n id then[id] else[]
 |_=> []
def AV.idss(n:Nat):List AV→List Nat
 |[]=> []
 |x::xs=>x.ids n++AV.idss n xs
end
def idq(n:Nat)(x:AV)(acc:List Nat):List Nat:=match x with
 | .d _=>acc
 | .os id _=>bif Nat.ble n id then id::acc else acc
 | .pt id _=>bif Nat.ble n id then id::acc else acc
 | .pe id _ _=>bif Nat.ble n id then id::acc else acc
 | .mp id=>bif Nat.ble n id then id::acc else acc
 |x=>x.ids n++acc
def uH(n:Nat):List AV→List Nat→List Nat
 |[],acc=>acc
 |x::l,acc=>uH n l (idq n x acc)
def vB(n:Nat):List (List AV)→List Nat→List Nat
 |[],acc=>acc
 |e::l,acc=>vB n l (uH n e acc)
def AO.ids(n:Nat):AO→List Nat
 | .row _ cs=>uH n cs []
 | .os _ _ _ es=>vB n es []
 | .mp es=>AV.idss n (es.map (·.2))
 | .mb _ xs _=>uH n xs []
 | .it src _ _ _=>src.ids n
 | .fam _ _ _ ess=>AV.idss n ess.flatten.flatten
 | .lp _ vs _ _=>AV.idss n vs
 |_=> []
def wH(n:Nat):List AO→List Nat
 |[]=> []
 |o::l=>o.ids n++wH n l
def ltq(n:Nat)(x:AV):Bool:=match x with
 | .d _=>true
 | .os id _=>Nat.ble (id+1) n
 | .pt id _=>Nat.ble (id+1) n
 | .pe id _ _=>Nat.ble (id+1) n
 | .mp id=>Nat.ble (id+1) n
 |x=>x.lt n
theorem wv{n:Nat}{x:AV}(h:ltq n x=true):x.lt n=true:=by
 unfold ltq at h
 split at h<;>first|exact h|(simp only[AV.lt];done)|(simp only[AV.lt];exact h)
def o3(n:Nat):List AV→Bool
 |[]=>true
 |x::l=>bif ltq n x then o3 n l else false
theorem jO{n:Nat}:∀{l:List AV},o3 n l=true→AV.lts n l=true
 |[],_=>rfl
 |x::l,h=>by
  unfold o3 at h
  cases hb:ltq n x with
  |true=>rw[hb,cdT] at h;simp only[AV.lts,Bool.and_eq_true];exact⟨wv hb,jO h⟩
  |false=>rw[hb] at h;cases h
def pT(n:Nat):List (List AV)→Bool
 |[]=>true
 |e::l=>bif o3 n e then pT n l else false
theorem nB{n:Nat}:∀{l:List (List AV)},pT n l=true→AV.lts n l.flatten=true
 |[],_=>rfl
 |e::l,h=>by
  unfold pT at h
  cases hb:o3 n e with
  |true=>rw[hb,cdT] at h;rw[List.flatten_cons,uE,jO hb,nB h];rfl
  |false=>rw[hb] at h;cases h
def t6(n:Nat)(o:AO):Bool:=match o with
 | .row _ cs=>o3 n cs
 | .os _ _ _ es=>pT n es
 | .mb _ xs _=>o3 n xs
 |o=>o.lt n
theorem tZ{n:Nat}{o:AO}(h:t6 n o=true):o.lt n=true:=by
 unfold t6 at h
 split at h
 ·exact jO h
 ·exact nB h
 ·exact jO h
 ·exact h
def pG(n:Nat):List AO→Bool
 |[]=>true
 |o::l=>bif t6 n o then pG n l else false
theorem nf{n:Nat}:∀{l:List AO},pG n l=true→d4 n l=true
 |[],_=>rfl
 |o::l,h=>by
  unfold pG at h
  cases hb:t6 n o with
  |true=>rw[hb,cdT] at h;simp only[d4,Bool.and_eq_true];exact⟨tZ hb,nf h⟩
  |false=>rw[hb] at h;cases h
def l9(n:Nat)(r:AV)(st:List AO):Bool:=r.lt n&&pG n st
def mj(n:Nat)(st:List AO):Nat→List Nat→List Nat→List Nat
 |0,_,seen=>seen
 |_+1,[],seen=>seen
 |k+1,x::todo,seen=>bif seen.contains x then mj n st k todo seen else mj n st k ((match st[x]? with
  |some o=>o.ids n
  |none=> [])++todo) (x::seen)
def rt(ks:List Nat):Nat→Nat→List AO→List AO
 |_,_,[]=> []
 |n,i,o::l=>(bif Nat.blt i n||ks.contains i then o else .dead)::rt ks n (i+1) l
theorem pu{ks:List Nat}{n:Nat}:∀{l:List AO}{i:Nat},SLe l (rt ks n i l)
 |[],_=>trivial
 |o::l,i=>by
  refine⟨?_,pu⟩
  cases (Nat.blt i n||ks.contains i) with
  |true=>exact OLe.refl o
  |false=>exact trivial
def ny:Nat→List Nat→Nat
 |m,[]=>m
 |m,x::l=>ny (bmax m (x+1)) l
def vx(n0:Nat)(ks:List Nat)(r:AV)(st:List AO):List AO:=bif Nat.ble n0 (ny n0 ks)&&l9 (ny n0 ks) r (rt ks n0 0 (st.take (ny n0 ks))) then rt ks n0 0 (st.take (ny n0 ks)) else st
def m7(n0:Nat)(r:AV)(st:List AO):List AO:=
 bif Nat.ble st.length n0 then st else vx n0 (mj n0 st 1000 (r.ids n0++wH n0 (st.take n0)) []) r st
theorem tS{m m':List Cz}{φ φ':Nat→Nat}{w w':World}{st st':List AO}{r:AV}{v:Value}{n:Nat}(hl:m.length=st.length)(hev:Ev m φ w m' φ' w')(hsr:SR m' φ' st' w')(hra:RA m' φ' w' r v)(hn:st.length≤n){st1:List AO}(hz:SLe (st'.take n) st1)(ht:l9 n r st1=true):
  ∃m'',Ev m φ w m'' φ' w'∧SR m'' φ' st1 w'∧RA m'' φ' w' r v:=by
 unfold l9 at ht
 rw[Bool.and_eq_true] at ht
 have hlen:=hz.length
 have hst1:=nf ht.2
 refine⟨m'.take n,⟨λi c hi=>?_,λb ⟨i,c,h1,h2⟩=>hev.new b ⟨i,c,(aG h1).2,h2⟩,hev.os,hev.tape,hev.output,hev.size,hev.keep,hev.fz⟩,⟨by rw[hlen];simp[hsr.len],λi o c h1 h2=>?_,hsr.lt,λi j o o' c c' b h1 h2 l1 l2 h3 h4=>?_,hsr.gl,λb ⟨i,c,h1,h2⟩=>hsr.nb b ⟨i,c,(aG h1).2,h2⟩⟩,RA.take _ _ ht.1 hra⟩
 ·obtain⟨c',h1,h2⟩:=hev.pre i c hi
  have:i<m.length:=(giS.1 hi).1
  rw[hl] at this
  exact⟨c',cf (Nat.ble_eq_true_of_le (show i+1≤n by omega)) h1,h2⟩
 ·obtain⟨o0,g1,g2⟩:=hz.get h1
  exact((hsr.obj i o0 c (aG g1).2 (aG h2).2).weak g2).take (fC hst1 h1)
 ·obtain⟨o0,g1,g2⟩:=hz.get h1
  obtain⟨o1,g3,g4⟩:=hz.get h2
  exact hsr.inj i j o0 o1 c c' b (aG g1).2 (aG g3).2 (g2.live l1) (g4.live l2) (aG h3).2 (aG h4).2
theorem rM{m m':List Cz}{φ φ':Nat→Nat}{w w':World}{st st':List AO}{r:AV}{v:Value}(hl:m.length=st.length)(hev:Ev m φ w m' φ' w')(hsr:SR m' φ' st' w')(hra:RA m' φ' w' r v):
  ∃m'',Ev m φ w m'' φ' w'∧SR m'' φ' (m7 st.length r st') w'∧RA m'' φ' w' r v:=by
 unfold m7
 cases Nat.ble st'.length st.length with
 |true=>exact⟨m',hev,hsr,hra⟩
 |false=>
  rw[cdF]
  generalize mj st.length st' 1000 (r.ids st.length++wH st.length (st'.take st.length)) []=ks
  unfold vx
  cases h2:(Nat.ble st.length (ny st.length ks)&&l9 (ny st.length ks) r (rt ks st.length 0 (st'.take (ny st.length ks)))) with
  |true=>
   rw[Bool.and_eq_true] at h2
   exact tS hl hev hsr hra (nbT h2.1) pu h2.2
  |false=>exact⟨m',hev,hsr,hra⟩
theorem rh{P:Program}{f:FuncId}{asz:List AV}{st:List AO}{Q:AV→List AO→Prop}(h:Ctr P f asz st Q):Ctr P f asz st (λr s=>∃s0,Q r s0∧s=m7 st.length r s0):=by
 refine⟨h.1,λm φ w vs hs ha=>(h.2 m φ w vs hs ha).mono ?_⟩
 rintro en w' ⟨v,r',s',m',φ',he,hq,hev,hsr,hra⟩
 obtain⟨m'',k1,k2,k3⟩:=rM (r:=r') hs.len hev hsr hra
 exact⟨v,r',_,m'',φ',he,⟨s',hq,rfl⟩,k1,k2,k3⟩
section
variable{P:Program}[PC P]{t:Ty}
end
mutual
def fzA(id ver:Nat)(y:AV):AV→AV
 | .os i v=>bif Nat.beq i id&&Nat.beq v ver then y else .os i v
 | .ag ps=> .ag (fzAs id ver y ps)
 | .tu ps=> .tu (fzAs id ver y ps)
 | .fn f a b=> .fn f (fzAs id ver y a) (fzAs id ver y b)
 | .ifc t x=> .ifc t (fzA id ver y x)
 |x=>x
def fzAs(id ver:Nat)(y:AV):List AV→List AV
 |[]=> []
 |x::l=>fzA id ver y x::fzAs id ver y l
end
section
variable{m:List Cz}{φ:Nat→Nat}{w:World}{id ver:Nat}{y:AV}{yv:Value}(hm:m[id]? =some (.tok ver yv))(hy:RA m φ w y yv)
include hm hy
mutual
theorem tC:∀(x:AV)(v:Value),RA m φ w x v→RA m φ w (fzA id ver y x) v
 | .os i u,v,h=>by
  rw[fzA]
  cases hb:Nat.beq i id&&Nat.beq u ver with
  |false=>exact h
  |true=>
   rw[Bool.and_eq_true] at hb
   have e1:=nbE hb.1
   have e2:=nbE hb.2
   subst e1 e2
   simp only[RA] at h
   obtain⟨v0,y0,h1,_,h3⟩:=h
   rw[hm] at h1
   simp only[af,Cz.tok.injEq] at h1
   obtain⟨rfl,rfl⟩:=h1
   rw[h3 rfl]
   exact hy
 | .ag ps,v,h=>by
  rw[fzA]
  simp only[RA] at h⊢
  obtain⟨cs,h1,h2⟩:=h
  exact⟨cs,h1,RAs_fz ps cs h2⟩
 | .tu ps,v,h=>by
  rw[fzA]
  simp only[RA] at h⊢
  obtain⟨cs,h1,h2⟩:=h
  exact⟨cs,h1,RAs_fz ps cs h2⟩
 | .fn f a b,v,h=>by
  rw[fzA]
  simp only[RA] at h⊢
  obtain⟨fs,cs,h1,h2,h3⟩:=h
  exact⟨fs,cs,h1,RAs_fz a fs h2,RAs_fz b cs h3⟩
 | .ifc t x,v,h=>by
  rw[fzA]
  simp only[RA] at h⊢
  obtain⟨z,h1,h2⟩:=h
  exact⟨z,h1,tC x z h2⟩
 | .u,v,h=>h
 | .d _,v,h=>h
 | .pt _ _,v,h=>h
 | .sr _ _ _ _,v,h=>h
 | .mp _,v,h=>h
 | .pe _ _ _,v,h=>h
 | .ow _ _ _ _ _,v,h=>h
 | .fs _,v,h=>h
 | .osf _ _ _,v,h=>h
 | .pem _ _ _ _,v,h=>h
 | .yl _,v,h=>h
theorem RAs_fz:∀(xs:List AV)(vs:List Value),RAs m φ w xs vs→RAs m φ w (fzAs id ver y xs) vs
 |[],vs,h=>h
 |x::xs,vs,h=>by
  rw[fzAs]
  simp only[RAs] at h⊢
  obtain⟨c,cs,h1,h2,h3⟩:=h
  exact⟨c,cs,h1,tC x c h2,RAs_fz xs cs h3⟩
end
end
theorem fS(id ver:Nat)(y:AV):∀xs:List AV,fzAs id ver y xs=xs.map (fzA id ver y)
 |[]=>rfl
 |x::xs=>by rw[fzAs,fS id ver y xs,List.map_cons]
def fzO(id ver:Nat)(y:AV):AO→AO
 | .row T cs=> .row T (fzAs id ver y cs)
 | .os T k v es=> .os T k v (es.map (fzAs id ver y))
 |o=>o
theorem p7(id ver:Nat)(y:AV):∀es:List (List AV),(es.map (fzAs id ver y)).flatten=fzAs id ver y es.flatten
 |[]=>rfl
 |e::es=>by
  rw[List.map_cons,List.flatten_cons,List.flatten_cons,p7 id ver y es,fS,fS,fS,List.map_append]
theorem OR_fz{m:List Cz}{φ:Nat→Nat}{w:World}{id ver:Nat}{y:AV}{yv:Value}(hm:m[id]? =some (.tok ver yv))(hy:RA m φ w y yv){o:AO}{c:Cz}(h:OR m φ w o c):OR m φ w (fzO id ver y o) c:=by
 cases o with
 |row T cs=>
  simp only[fzO,OR] at h⊢
  obtain⟨b,h1,h2,vs,h3,h4⟩:=h
  exact⟨b,h1,h2,vs,h3,RAs_fz hm hy _ _ h4⟩
 |os T k v es=>
  simp only[fzO,OR] at h⊢
  obtain⟨z,xs,h1,h2,h3,h4,h5⟩:=h
  refine⟨z,xs,h1,by rw[List.length_map];exact h2,by rw[p7];exact RAs_fz hm hy _ _ h3,λe he=>?_,h5⟩
  obtain⟨e',he',rfl⟩:=List.mem_map.1 he
  rw[fS,List.length_map]
  exact h4 e' he'
 |_=>exact h
theorem sE(id ver:Nat)(y:AV)(o:AO):(fzO id ver y o).live=o.live:=by cases o<;>rfl
theorem SR_fz{m:List Cz}{φ:Nat→Nat}{w:World}{st:List AO}{id ver:Nat}{y:AV}{yv:Value}(hm:m[id]? =some (.tok ver yv))(hy:RA m φ w y yv)(h:SR m φ st w):SR m φ (st.map (fzO id ver y)) w:=by
 refine⟨by rw[List.length_map];exact h.len,λi o c ho hc=>?_,h.lt,λi j o o' c c' b ho ho' hl hl' hc hc' hb hb'=>?_,h.gl,h.nb⟩
 ·rw[List.getElem?_map,Option.map_eq_some_iff] at ho
  obtain⟨o0,h0,rfl⟩:=ho
  exact OR_fz hm hy (h.obj i o0 c h0 hc)
 ·rw[List.getElem?_map,Option.map_eq_some_iff] at ho ho'
  obtain⟨o0,h0,rfl⟩:=ho
  obtain⟨o1,h1,rfl⟩:=ho'
  rw[sE] at hl hl'
  exact h.inj i j o0 o1 c c' b h0 h1 hl hl' hc hc' hb hb'
def fzE(id ver:Nat)(y:AV)(env:Env):Env:=env.map λp=>(p.1,fzA id ver y p.2)
theorem p8{id ver:Nat}{y:AV}:∀{env:Env}{t:Nat}{x:AV},(fzE id ver y env).get t=some x→∃x0,env.get t=some x0∧x=fzA id ver y x0
 |[],t,x,h=>by cases h
 |(k,v)::env,t,x,h=>by
  have h:(bif Nat.beq t k then some (fzA id ver y v) else Env.get (fzE id ver y env) t)=some x:=h
  show∃x0,(bif Nat.beq t k then some v else Env.get env t)=some x0∧_
  cases hb:Nat.beq t k with
  |true=>rw[hb] at h;exact⟨v,rfl,(inS h).symm⟩
  |false=>rw[hb] at h;exact p8 h
theorem gh_fz{e:En}{env:Env}{st:List AO}{id ver T k:Nat}{ds:List (List D)}(hs:st[id]? =some (.os T k ver (ds.map λe=>e.map AV.d))):
  Gh e env st (fzE id ver (.d (.sl ds)) env) ((st.set id .dead).map (fzO id ver (.d (.sl ds)))):=λm φ a w hi=>by
 obtain⟨c,hcm⟩:∃c,m[id]? =some c:=by
  have:id<m.length:=by rw[hi.sr.len];exact(giS.1 hs).1
  exact⟨_,geG this⟩
 obtain⟨yv,xs,rfl,_⟩:=hi.sr.obj id _ _ hs hcm
 obtain⟨φ',f1,f2,f3⟩:=jd hi.sr hs hcm
 have h3:=hi.go f1 f2
 have hy:RA m φ' w (.d (.sl ds)) yv:=by simpa[RA] using f3
 refine⟨m,φ',SR_fz hcm hy h3.sr,h3.ev,⟨λt x hx=>?_,h3.env.gl⟩,h3.sz,h3.df⟩
 obtain⟨x0,g1,rfl⟩:=p8 hx
 obtain⟨v,q1,q2⟩:=h3.env.get t x0 g1
 exact⟨v,q1,tC hcm hy _ _ q2⟩
def unD:AV→Option D
 | .d (.v (.slice none 0 0))=>some (.sl [])
 | .d x=>some x
 |_=>none
def tR:List AV→Option (List D)
 |[]=>some []
 |x::l=>match unD x,tR l with
  |some d,some ds=>some (d::ds)
  |_,_=>none
def pD:List (List AV)→Option (List (List D))
 |[]=>some []
 |x::l=>match tR x,pD l with
  |some d,some ds=>some (d::ds)
  |_,_=>none
theorem vW{x:AV}{d:D}(h:unD x=some d):Le x (.d d):=by
 unfold unD at h
 split at h
 ·obtain rfl:=inS h;exact Le.nil
 ·obtain rfl:=inS h;exact Le.refl _
 ·cases h
theorem pE:∀{xs:List AV}{ds:List D},tR xs=some ds→Les xs (ds.map .d)
 |[],ds,h=>by obtain rfl:=inS h;exact Les.refl _
 |x::xs,ds,h=>by
  unfold tR at h
  split at h
  ·rename_i h1 h2
   obtain rfl:=inS h
   exact⟨vW h1,pE h2⟩
  ·cases h
theorem m6:∀{es:List (List AV)}{ds:List (List D)},pD es=some ds→Les es.flatten (ds.map λe=>e.map AV.d).flatten∧es.length=ds.length∧∀k,(∀e∈es,e.length=k)→∀e∈ds.map λe=>e.map AV.d,e.length=k
 |[],ds,h=>by obtain rfl:=inS h;exact⟨Les.refl _,rfl,λk _ e he=>by cases he⟩
 |x::es,ds,h=>by
  unfold pD at h
  split at h
  ·rename_i d ds' h1 h2
   obtain rfl:=inS h
   obtain⟨q1,q2,q3⟩:=m6 h2
   have hx:=pE h1
   refine⟨by rw[List.flatten_cons,List.map_cons,List.flatten_cons];exact Les.app hx q1,by simp[q2],λk hk e he=>?_⟩
   rw[List.map_cons] at he
   rcases List.mem_cons.1 he with rfl|he
   ·have:=Les.len hx
    rw[←this];exact hk x List.mem_cons_self
   ·exact q3 k (λe he=>hk e (List.mem_cons_of_mem _ he)) e he
  ·cases h
theorem q9{e:En}{env:Env}{st:List AO}{id ver T k:Nat}{es es':List (List AV)}(hs:st[id]? =some (.os T k ver es))(h:Les es.flatten es'.flatten)(hl:es.length=es'.length)(hk:∀k,(∀e∈es,e.length=k)→∀e∈es',e.length=k):
  Gh e env st env (st.set id (.os T k ver es')):=λm φ a w hi=>by
 refine⟨m,φ,⟨⟨by rw[List.length_set];exact hi.sr.len,λi o c ho hc=>?_,hi.sr.lt,λi j o o' c c' b ho ho' hl1 hl2 hc hc' hb hb'=>?_,hi.sr.gl,hi.sr.nb⟩,hi.ev,hi.env,hi.sz,hi.df⟩⟩
 ·by_cases hid:id=i
  ·subst hid
   rw[List.getElem?_set_self (giS.1 hs).1] at ho
   obtain rfl:=inS ho
   have h0:=hi.sr.obj id _ c hs hc
   simp only[OR] at h0⊢
   obtain⟨z,xs,h1,h2,h3,h4,h5⟩:=h0
   exact⟨z,xs,h1,by rw[←hl];exact h2,h.ras h3,hk _ h4,h5⟩
  ·rw[List.getElem?_set_ne hid] at ho
   exact hi.sr.obj i o c ho hc
 ·have key:∀(i:Nat)(o:AO),(st.set id (.os T k ver es'))[i]? =some o→o.live=true→∃o0:AO,st[i]? =some o0∧o0.live=true:=λi o ho hl=>by
   by_cases hid:id=i
   ·subst hid;exact⟨_,hs,rfl⟩
   ·rw[List.getElem?_set_ne hid] at ho;exact⟨o,ho,hl⟩
  obtain⟨o0,g0,l0⟩:=key i o ho hl1
  obtain⟨o1,g1,l1⟩:=key j o' ho' hl2
  exact hi.sr.inj i j o0 o1 c c' b g0 g1 l0 l1 hc hc' hb hb'
theorem Gh.trans{e:En}{env env' env'':Env}{st st' st'':List AO}(h:Gh e env st env' st')(k:Gh e env' st' env'' st''):Gh e env st env'' st'':=λm φ a w hi=>by
 obtain⟨m',φ',h1⟩:=h m φ a w hi
 exact k m' φ' a w h1
theorem Gh.refl{e:En}{env:Env}{st:List AO}:Gh e env st env st:=λm φ _ _ hi=>⟨m,φ,hi⟩
def wO(id:Nat)(env:Env)(st:List AO):Option (Env×List AO):=match st[id]? with
 |some (.os _ _ ver es)=>(match pD es with
  |some ds=>some (fzE id ver (.d (.sl ds)) env,(st.set id .dead).map (fzO id ver (.d (.sl ds))))
  |none=>none)
 |_=>none
theorem uN{e:En}{id:Nat}{env env':Env}{st st':List AO}(h:wO id env st=some (env',st')):Gh e env st env' st':=by
 unfold wO at h
 split at h
 ·rename_i T k ver es hs
  split at h
  ·rename_i ds hd
   simp only[af,Prod.mk.injEq] at h
   obtain⟨rfl,rfl⟩:=h
   obtain⟨q1,q2,q3⟩:=m6 hd
   refine(q9 hs q1 (by rw[List.length_map];exact q2) q3).trans ?_
   have hlt:=(giS.1 hs).1
   have:=gh_fz (e:=e) (env:=env) (st:=st.set id (.os T k ver (ds.map λe=>e.map AV.d))) (id:=id) (ds:=ds) (List.getElem?_set_self hlt)
   rw[List.set_set] at this
   exact this
  ·cases h
 ·cases h
mutual
def wI(st:List AO):Nat→AV→List Nat
 |0,_=> []
 |n+1,x=>match x with
  | .os id _=>(match st[id]? with
   |some (.os _ _ _ es)=>idsL st n es.flatten++ [id]
   |_=> [])
  | .ag ps=>idsL st n ps
  | .tu ps=>idsL st n ps
  | .fn _ a b=>idsL st n a++idsL st n b
  | .ifc _ y=>wI st n y
  |_=> []
def idsL(st:List AO):Nat→List AV→List Nat
 |0,_=> []
 |_,[]=> []
 |n+1,x::l=>wI st n x++idsL st n l
end
def o9:List Nat→Env→List AO→Option (Env×List AO)
 |[],env,st=>some (env,st)
 |id::l,env,st=>match st[id]? with
  |some .dead=>o9 l env st
  |_=>(match wO id env st with
   |some (env',st')=>o9 l env' st'
   |none=>none)
theorem jP{e:En}:∀{l:List Nat}{env env':Env}{st st':List AO},o9 l env st=some (env',st')→Gh e env st env' st'
 |[],env,env',st,st',h=>by
  simp only[o9,af,Prod.mk.injEq] at h
  obtain⟨rfl,rfl⟩:=h
  exact Gh.refl
 |id::l,env,env',st,st',h=>by
  unfold o9 at h
  split at h
  ·exact jP h
  ·split at h
   ·rename_i h1
    exact(uN h1).trans (jP h)
   ·cases h
mutual
def leX:Nat→AV→D→Bool
 |0,_,_=>false
 |n+1,x,d=>match x with
  | .ag xs=>(match d with
   | .ag ds=>leXs n xs ds
   |_=>false)
  | .d (.ag ps)=>(match d with
   | .ag ds=>leXs n (ps.map .d) ds
   |_=>false)
  | .d (.v (.slice none 0 0))=>(match d with
   | .sl []=>true
   | .v (.slice none 0 0)=>true
   |_=>false)
  | .d a=>eqD a d
  |_=>false
def leXs:Nat→List AV→List D→Bool
 |0,_,_=>false
 |_,[],[]=>true
 |n+1,x::xs,d::ds=>leX n x d&&leXs n xs ds
 |_,_,_=>false
end
mutual
theorem wy:∀{n:Nat}{x:AV}{d:D},leX n x d=true→Le x (.d d)
 |0,x,d,h=>by simp[leX] at h
 |n+1,x,d,h=>by
  unfold leX at h
  split at h
  ·split at h
   ·exact aO (leXs_ok h)
   ·cases h
  ·split at h
   ·exact(xg _).trans (aO (leXs_ok h))
   ·cases h
  ·split at h
   ·exact Le.nil
   ·exact Le.refl _
   ·cases h
  ·rw[pg h];exact Le.refl _
  ·cases h
theorem leXs_ok:∀{n:Nat}{xs:List AV}{ds:List D},leXs n xs ds=true→Les xs (ds.map .d)
 |0,xs,ds,h=>by simp[leXs] at h
 |n+1,xs,ds,h=>by
  unfold leXs at h
  split at h
  ·rename_i h0;cases h0
  ·exact Les.refl _
  ·rename_i h0
   cases h0
   rw[Bool.and_eq_true] at h
   exact⟨wy h.1,leXs_ok h.2⟩
  ·cases h
end
theorem wg{P:Program}{f:FuncId}{asz:List AV}{st:List AO}{ds:List D}{y:D}(h:Pu P f ds y)(hl:Les asz (ds.map .d)):Ctr P f asz st (λr' s'=>r'= .d y∧s'=st):=by
 refine⟨h.1,λm φ w vs hs ha=>(ja h hs ha hl).mono ?_⟩
 rintro en w' ⟨v,φ',rfl,hev,hsr,hra,_⟩
 exact⟨v, .d y,st,m,φ',rfl,⟨rfl,rfl⟩,hev,hsr,by simpa[RA] using hra⟩
def knX:List (FuncId×List D×D)→bl
 |[],_,_,_=>none
 |(g,ds,y)::tab,f,asz,st=>bif Nat.beq g f&&leXs 100 asz ds then some (.d y,st) else knX tab f asz st
theorem sw{P:Program}:∀{tab:List (FuncId×List D×D)},(∀p∈tab,Pu P p.1 p.2.1 p.2.2)→bM P (knX tab)
 |[],_,f,asz,st,r,st',h=>by cases h
 |(g,ds,y)::tab,ht,f,asz,st,r,st',h=>by
  unfold knX at h
  cases hb:Nat.beq g f&&leXs 100 asz ds with
  |false=>rw[hb] at h;exact sw (λp hp=>ht p (List.mem_cons_of_mem _ hp)) f asz st r st' h
  |true=>
   rw[hb] at h
   simp only[cdT,af,Prod.mk.injEq] at h
   obtain⟨rfl,rfl⟩:=h
   rw[Bool.and_eq_true] at hb
   have e:=nbE hb.1
   subst e
   exact wg (ht _ List.mem_cons_self) (leXs_ok hb.2)
def unN:D→D
 | .v (.slice none 0 0)=> .sl []
 |x=>x
theorem vV{φ:Nat→Nat}{w:World}{x:D}{v:Value}(h:RD φ w x v):RD φ w (unN x) v:=by
 unfold unN
 split
 ·have:=Le.nil [] φ w v (by simpa[RA] using h)
  simpa[RA] using this
 ·exact h
def cN(f:AV→Option D):List AV→Option (List D)
 |[]=>some []
 |x::l=>match f x,cN f l with|some d,some ds=>some (d::ds)|_,_=>none
def iT(f:AV→Option D):List (List AV)→Option (List (List D))
 |[]=>some []
 |x::l=>match cN f x,iT f l with|some d,some ds=>some (d::ds)|_,_=>none
def gR(st:List AO):Nat→AV→Option D
 |0,_=>none
 |n+1,x=>match x with
  | .d x=>some (unN x)
  | .ag ps=>(cN (gR st n) ps).map .ag
  | .os id ver=>match st[id]? with
   |some (.os _ _ ver' es)=>bif Nat.beq ver ver' then(iT (gR st n) es).map .sl else none
   |_=>none
  | .ow id ver off len lo=>match st[id]? with
   |some (.os _ k ver' es)=>bif Nat.beq ver ver'&&(Nat.beq off (lo*k)&&Nat.ble (lo+len) es.length) then(iT (gR st n) ((es.drop lo).take len)).map .sl else none
   |_=>none
  |_=>none
theorem fA{m φ w}{φ':Nat→Nat}{f:AV→Option D}(hf:∀x v d,RA m φ w x v→f x=some d→RD φ' w d v):∀{xs:List AV}{vs:List Value}{ds:List D},RAs m φ w xs vs→cN f xs=some ds→RFs φ' w ds vs
 |[],vs,ds,h,hv=>by
  simp only[cN,af] at hv
  subst hv
  simpa[RAs,RFs] using h
 |x::xs,vs,ds,h,hv=>by
  simp only[RAs] at h
  obtain⟨c,cs,rfl,h1,h2⟩:=h
  simp only[cN] at hv
  split at hv
  ·rename_i d ds' e1 e2
   simp only[af] at hv
   subst hv
   simp only[RFs]
   exact⟨c,cs,rfl,hf _ _ _ h1 e1,fA hf h2 e2⟩
  ·cases hv
theorem k9{f:AV→Option D}:∀{xs:List AV}{ds:List D},cN f xs=some ds→ds.length=xs.length
 |[],ds,hv=>by simp only[cN,af] at hv;subst hv;rfl
 |x::xs,ds,hv=>by
  simp only[cN] at hv
  split at hv
  ·rename_i d ds' e1 e2
   simp only[af] at hv
   subst hv
   simp[k9 e2]
  ·cases hv
theorem la{f:AV→Option D}:∀{xs ys:List AV}{ds es:List D},cN f xs=some ds→cN f ys=some es→cN f (xs++ys)=some (ds++es)
 |[],ys,ds,es,h,k=>by simp only[cN,af] at h;subst h;exact k
 |x::xs,ys,ds,es,h,k=>by
  simp only[cN] at h
  split at h
  ·rename_i d ds' e1 e2
   simp only[af] at h
   subst h
   simp only[List.cons_append,cN,e1,la e2 k]
  ·cases h
theorem iS{f:AV→Option D}{k:Nat}:∀{es:List (List AV)}{ds:List (List D)},iT f es=some ds→(∀e∈es,e.length=k)→cN f es.flatten=some ds.flatten∧ds.length=es.length∧∀e∈ds,e.length=k
 |[],ds,hv,_=>by simp only[iT,af] at hv;subst hv;exact⟨rfl,rfl,λe he=>by cases he⟩
 |x::xs,ds,hv,hk=>by
  simp only[iT] at hv
  split at hv
  ·rename_i d ds' e1 e2
   simp only[af] at hv
   subst hv
   obtain⟨h1,h2,h3⟩:=iS e2 (λe he=>hk e (List.mem_cons_of_mem _ he))
   refine⟨by rw[List.flatten_cons,List.flatten_cons];exact la e1 h1,by simp[h2],λe he=>?_⟩
   rcases List.mem_cons.1 he with rfl|he
   ·rw[k9 e1];exact hk x List.mem_cons_self
   ·exact h3 e he
  ·cases hv
theorem mB{φ:Nat→Nat}{w:World}:Fz φ w (aB w) w:=λ_ _ _ _ h=>⟨cell_lt' h,h⟩
where
 cell_lt' {w:World} {b off:Nat} {c:Value} (h:w.cell? ⟨b,off,none⟩=some c):off<aB w b:=by
  unfold World.cell? at h
  unfold aB
  split at h
  ·rename_i cs t fr hh
   simp only at hh
   rw[hh]
   simp only[Option.isSome_none,Bool.false_eq_true,if_false] at h
   exact(Array.getElem?_eq_some_iff.1 h).1
  ·cases h
theorem pA{m φ st w}(hs:SR m φ st w):∀(n:Nat)(x:AV)(v:Value)(d:D),RA m φ w x v→gR st n x=some d→RD (aB w) w d v
 |0,x,v,d,_,hv=>by simp[gR] at hv
 |n+1,x,v,d,h,hv=>by
  have ih:=pA hs n
  cases x with
  |d x=>
   simp only[gR,af] at hv
   subst hv
   simp only[RA] at h
   exact vV (RD.mono mB _ _ h)
  |ag ps=>
   simp only[gR,Option.map_eq_some_iff] at hv
   obtain⟨ds,h1,rfl⟩:=hv
   simp only[RA] at h
   obtain⟨cs,rfl,h2⟩:=h
   simp only[RD]
   exact⟨cs,rfl,fA ih h2 h1⟩
  |os id ver=>
   simp only[gR] at hv
   split at hv
   ·rename_i T k ver' es hi
    cases hb:Nat.beq ver ver' with
    |false=>rw[hb] at hv;cases hv
    |true=>
     rw[hb,cdT,Option.map_eq_some_iff] at hv
     obtain⟨ds,hd,rfl⟩:=hv
     have hver:=nbE hb
     subst hver
     simp only[RA] at h
     obtain⟨v0,y0,g1,g2,g3⟩:=h
     obtain⟨y',xs,e1,h1,h2,h3,h4⟩:=hs.obj id _ _ hi g1
     simp only[Cz.tok.injEq] at e1
     obtain⟨rfl,rfl⟩:=e1
     have hy:=g3 rfl
     subst hy
     obtain⟨f1,f2,f3⟩:=iS hd h3
     have h2':RFs (aB w) w ds.flatten xs:=fA ih h2 f1
     simp only[RD]
     rw[←f2] at h1
     rcases h1.2 with⟨rfl,hn⟩|⟨g,cap,cur,rfl,_,hg,hnc,_,_,_⟩
     ·exact .inl ⟨List.eq_nil_of_length_eq_zero hn,none,0,rfl,λ_=>rfl⟩
     ·refine .inr ⟨g,0,k,cap,rfl,hnc,f3,da f3 h2' λj v hj=>?_⟩
      have:=bC h1 hj
      rw[Nat.zero_add]
      exact⟨mB.cell_lt' this,this⟩
   ·cases hv
  |ow id ver off len lo=>
   simp only[gR] at hv
   split at hv
   ·rename_i T k ver' es hi
    cases hb:(Nat.beq ver ver'&&(Nat.beq off (lo*k)&&Nat.ble (lo+len) es.length)) with
    |false=>rw[hb] at hv;cases hv
    |true=>
     rw[hb,cdT,Option.map_eq_some_iff] at hv
     obtain⟨ds,hd,rfl⟩:=hv
     rw[Bool.and_eq_true,Bool.and_eq_true] at hb
     obtain⟨hb1,hb2,hb3⟩:=hb
     have hver:=nbE hb1
     have hoff:=nbE hb2
     have hfit:=nbT hb3
     subst hver;subst hoff
     obtain⟨y,xs,g1,h1,h2,h3,h4,h5⟩:=gj hs Piece.ow h hi
     have h3':∀e∈(es.drop lo).take len,e.length=k:=λe he=>h3 e (List.mem_of_mem_drop (List.mem_of_mem_take he))
     obtain⟨f1,f2,f3⟩:=iS hd h3'
     have hfl:((es.drop lo).take len).flatten=(es.flatten.drop (lo*k)).take (len*k):=by
      rw[bV _ _ (λe he=>h3 e (List.mem_of_mem_drop he)),du _ _ h3]
     have h2':RAs m φ w ((es.drop lo).take len).flatten ((xs.drop (lo*k)).take (len*k)):=by
      rw[hfl];exact aU _ (bg _ h2)
     have h2'':RFs (aB w) w ds.flatten ((xs.drop (lo*k)).take (len*k)):=fA ih h2' f1
     have hlen:ds.length=len:=by rw[f2,List.length_take,List.length_drop];omega
     have hxl:=h1.1
     simp only[RD]
     rcases h5 with⟨_,rfl,rfl⟩|⟨b,nn,cap,off',rfl,rfl,ho⟩
     ·exact .inl ⟨List.eq_nil_of_length_eq_zero hlen,none,0,rfl,λ_=>rfl⟩
     ·by_cases h0:len=0
      ·subst h0
       exact .inl ⟨List.eq_nil_of_length_eq_zero hlen,_,_,rfl,λh=>by cases h⟩
      ·have ho2:off'=lo*k:=ho.resolve_right h0
       subst ho2
       have hcap:nn=es.length∧nn≤cap:=by
        rcases h1.2 with⟨e1,_⟩|⟨g,cap',cur,e1,_,_,hnc,_,_,_⟩
        ·cases e1
        ·simp only[Value.slice.injEq] at e1;obtain⟨_,rfl,rfl⟩:=e1;exact⟨rfl,hnc⟩
       refine .inr ⟨b,lo*k,k,cap - lo,by rw[hlen],oM,f3,da f3 h2'' λj v hj=>?_⟩
       have hj2:xs[lo*k+j]? =some v:=by
        rw[List.getElem?_take] at hj
        split at hj
        ·rw[List.getElem?_drop] at hj;exact hj
        ·cases hj
       have:=bC h1 hj2
       exact⟨mB.cell_lt' this,this⟩
   ·cases hv
  |_=>simp[gR] at hv
section
variable{P:Program}{env:Env}{st:List AO}{dst:Option Tmp}{ty:TypeId}{pos:String}{after:Array Edge}{guard:Option (Nat×Bool)}
end
section
variable{P:Program}{e:En}{ops:Array Oper}{o:Oper}{rest:List Oper}{env:Env}{st:List AO}{R:Env→List AO→Prop}{d:Nat}
theorem qM{f:FuncId}{m φ w}{asz:List AV}{vs:List Value}{ds:List D}{y:D}{val:Value}(n:Nat)(hc:Pu P f ds y)(hg:y.gnd=some val)(hs:SR m φ st w)(ha:RAs m φ w asz vs)(hv:cN (gR st n) asz=some ds):
  Calls P f ⟨vs⟩ w λen w'=>en= .returned val∧Below w.heap.size w w':=by
 have h1:RFs (aB w) w ds vs:=fA (pA hs n) ha hv
 have hsr:SR [] (aB w) [] w:=ni w (hs.gl.mono mB)
 refine(hc.2 [] (aB w) w vs hsr (bG h1)).mono ?_
 rintro en w' ⟨v,r,st',m',φ',rfl,⟨rfl,rfl⟩,hev,_,hra⟩
 have hv2:=tB (by simpa[RA] using hra) hg
 subst hv2
 exact⟨rfl,hev.os,hev.tape,hev.output,hev.size,λb hb=>(hev.keep b hb (by simp[In])).1⟩
end
theorem rL{P:Program}{f:FuncId}{asz:List AV}{st:List AO}{ds:List D}{y:D}{val:Value}(n:Nat)(hc:Pu P f ds y)(hg:y.gnd=some val)(hv:cN (gR st n) asz=some ds):Ctr P f asz st (λr' s'=>r'= .d y∧s'=st):=
 ⟨hc.1,λm φ w vs hs ha=>(qM n hc hg hs ha hv).mono λen w' h=>⟨val, .d y,st,m,φ,h.1,⟨rfl,rfl⟩,Ev.of_below hs h.2,hs.of_below h.2,by simpa[RA] using sC hg⟩⟩
def knV:List (FuncId×List D×D)→bl
 |[],_,_,_=>none
 |(g,ds,y)::tab,f,asz,st=>bif Nat.beq g f&&(y.gnd.isSome&&(match cN (gR st 100) asz with
  |some ds'=>eqDs ds' ds
  |none=>false)) then some (.d y,st) else knV tab f asz st
theorem sx{P:Program}:∀{tab:List (FuncId×List D×D)},(∀p∈tab,Pu P p.1 p.2.1 p.2.2)→bM P (knV tab)
 |[],_,f,asz,st,r,st',h=>by cases h
 |(g,ds,y)::tab,ht,f,asz,st,r,st',h=>by
  unfold knV at h
  cases hb:(Nat.beq g f&&(y.gnd.isSome&&(match cN (gR st 100) asz with
   |some ds'=>eqDs ds' ds
   |none=>false))) with
  |false=>rw[hb] at h;exact sx (λp hp=>ht p (List.mem_cons_of_mem _ hp)) f asz st r st' h
  |true=>
   rw[hb] at h
   simp only[cdT,af,Prod.mk.injEq] at h
   obtain⟨rfl,rfl⟩:=h
   rw[Bool.and_eq_true,Bool.and_eq_true] at hb
   obtain⟨h1,h2,h3⟩:=hb
   have e:=nbE h1
   subst e
   obtain⟨val,hval⟩:=Option.isSome_iff_exists.1 h2
   split at h3
   ·rename_i ds' hv
    have:=eqDs_ok h3
    subst this
    exact rL 100 (ht _ List.mem_cons_self) hval hv
   ·cases h3
def orX(a b:bl):bl:=λf asz st=>match a f asz st with
 |some r=>some r
 |none=>b f asz st
theorem oV{P:Program}{a b:bl}(ha:bM P a)(hb:bM P b):bM P (orX a b):=λf asz st r st' h=>by
 unfold orX at h
 split at h
 ·rename_i h1
  obtain rfl:=inS h
  exact ha _ _ _ _ _ h1
 ·exact hb _ _ _ _ _ h
def wL:db:=λo env st=>match o.op with
 | .slice _ x _ _ _=>(match opv env x with
  |some (.os id v)=>o9 (wI st 64 (.os id v)) env st
  |_=>none)
 |_=>none
theorem uK:eC wL:=λe o env st env' st' h=>by
 unfold wL at h
 split at h
 ·split at h
  ·exact jP h
  ·cases h
 ·cases h
def wM:db:=λo env st=>match o.op with
 | .slice _ _ none (some _) none=>none
 |_=>wL o env st
theorem uL:eC wM:=λe o env st env' st' h=>by
 unfold wM at h
 split at h
 ·cases h
 ·exact uK e o env st env' st' h
theorem qV{P:Program}{f:FuncId}{asz:List D}{r:D}{st':List AO}(h:Ctr P f (asz.map .d) [] λr' s'=>r'= .d r∧s'=st'):Pu P f asz r:=by
 refine⟨h.1,λm φ w vs hs ha=>(h.2 m φ w vs hs ha).mono ?_⟩
 rintro en w' ⟨v,r',s',m',φ',rfl,⟨rfl,rfl⟩,hev,hsr,hra⟩
 have hm:m=[]:=List.eq_nil_of_length_eq_zero hs.len
 subst hm
 exact⟨v,_,[],[],φ',rfl,⟨rfl,rfl⟩,⟨Pre.refl _,λ_ h=> .inl h,hev.os,hev.tape,hev.output,hev.size,hev.keep,hev.fz⟩,hsr.nil,by simpa[RA] using hra⟩
def knM:List (FuncId×List AV×List AO×AV×List AO)→bl
 |[],_,_,_=>none
 |(g,xs,s,r,s')::tab,f,asz,st=>bif Nat.beq g f&&(eqAVs asz xs&&gD st s) then some (r,s') else knM tab f asz st
theorem sy{P:Program}:∀{tab:List (FuncId×List AV×List AO×AV×List AO)},(∀p∈tab,Ctr P p.1 p.2.1 p.2.2.1 λr' s'=>r'=p.2.2.2.1∧s'=p.2.2.2.2)→bM P (knM tab)
 |[],_,f,asz,st,r,st',h=>by cases h
 |(g,xs,s,r0,s0)::tab,ht,f,asz,st,r,st',h=>by
  unfold knM at h
  cases hb:(Nat.beq g f&&(eqAVs asz xs&&gD st s)) with
  |false=>rw[hb] at h;exact sy (λp hp=>ht p (List.mem_cons_of_mem _ hp)) f asz st r st' h
  |true=>
   rw[hb] at h
   simp only[cdT,af,Prod.mk.injEq] at h
   obtain⟨rfl,rfl⟩:=h
   rw[Bool.and_eq_true,Bool.and_eq_true] at hb
   have e:=nbE hb.1
   subst e
   rw[eqAVs_ok hb.2.1,fW hb.2.2]
   exact ht _ List.mem_cons_self
def wN(fs:List FuncId):db:=λo env st=>match o.op with
 | .call c=>(match c.callee with
  | .value x=>(match opv env x,br env c.args.toList with
   |some (.fn (.func f) _ _),some xs=>bif fs.any (Nat.beq f) then o9 (idsL st 64 xs) env st else none
   |_,_=>none)
  |_=>none)
 |_=>wM o env st
theorem uM(fs:List FuncId):eC (wN fs):=λe o env st env' st' h=>by
 unfold wN at h
 split at h
 ·split at h
  ·split at h
   ·rename_i f _ _ xs _ _
    cases hb:fs.any (Nat.beq f) with
    |false=>rw[hb] at h;cases h
    |true=>rw[hb] at h;exact jP h
   ·cases h
  ·cases h
 ·exact uL e o env st env' st' h
abbrev dz:=FuncId→List AV→List AO→Option (List (AV×List AO))
def dv(P:Program)(call:dz):Prop:=∀f asz st outs,call f asz st=some outs→Ctr P f asz st (λr s=>(r,s)∈outs)
theorem Ctr.imp{P:Program}{f:FuncId}{asz:List AV}{st:List AO}{Q Q':AV→List AO→Prop}(h:Ctr P f asz st Q)(hq:∀r s,Q r s→Q' r s):Ctr P f asz st Q':=
 ⟨h.1,λm φ w vs hs ha=>(h.2 m φ w vs hs ha).mono λ_ _ ⟨v,r,s,m',φ',a,b,c⟩=>⟨v,r,s,m',φ',a,hq r s b,c⟩⟩
def ta(call:dz):bl:=λf asz st=>match call f asz st with
 |some [o]=>some o
 |_=>none
theorem mI{P:Program}{call:dz}(hc:dv P call):bM P (ta call):=λf asz st r st' h=>by
 unfold ta at h
 split at h
 ·rename_i o ho
  obtain rfl:=inS h
  exact(hc _ _ _ _ ho).imp λr' s' hq=>by simpa using hq
 ·cases h
def ofX(call:bl):dz:=λf asz st=>match call f asz st with
 |some o=>some [o]
 |none=>none
theorem rY{P:Program}{call:bl}(hc:bM P call):dv P (ofX call):=λf asz st outs h=>by
 unfold ofX at h
 split at h
 ·rename_i o ho
  obtain rfl:=inS h
  exact(hc _ _ _ _ _ ho).imp λr' s' hq=>by obtain⟨rfl,rfl⟩:=hq;simp
 ·cases h
def gG{α β:Type}(f:α→Option (List β)):List α→Option (List β)
 |[]=>some []
 |a::l=>match f a with
  |some r=>(match gG f l with
   |some rs=>some (r++rs)
   |none=>none)
  |none=>none
theorem dU{α β:Type}{f:α→Option (List β)}:∀{l:List α}{rs:List β},gG f l=some rs→∀a∈l,∃r,f a=some r∧∀x∈r,x∈rs
 |[],_,_,_,ha=>by cases ha
 |b::l,rs,h,a,ha=>by
  unfold gG at h
  split at h
  ·rename_i r hr
   split at h
   ·rename_i rs' hrs
    obtain rfl:=inS h
    rcases List.mem_cons.1 ha with rfl|ha
    ·exact⟨r,hr,λx hx=>List.mem_append_left _ hx⟩
    ·obtain⟨r',h1,h2⟩:=dU hrs a ha
     exact⟨r',h1,λx hx=>List.mem_append_right _ (h2 x hx)⟩
   ·cases h
  ·cases h
def mo:bl:=λ_ _ _=>none
theorem qY{P:Program}:bM P mo:=λ_ _ _ _ _ h=>by cases h
def stN(call:dz)(ops:Array Oper)(env:Env)(st:List AO)(o:Oper):Option (List (AV×List AO)):=match o.op with
 | .call c=>(match c.callee with
  | .value x=>(match fy ops env o.guard,opv env x,br env c.args.toList with
   |some true,some (.fn (.func f) first caps),some asz=>call f (first++asz++caps) st
   |_,_,_=>none)
  |_=>none)
 | .next x b=>(match fy ops env o.guard with
  |some true=>nxX env st (.next x b)
  |_=>none)
 |_=>none
def k5(P:Program)(t:Ty)(nt:Nat)(call:dz)(yld:jm)(hook:db)(ops:Array Oper):List Oper→Env→List AO→Option (List (Env×List AO))
 |[],env,st=>some [(env,st)]
 |o::l,env,st=>match hook o env st with
  |some (env1,st1)=>(match stN call ops env1 st1 o with
   |some outs=>(match o.dst with
    |some d=>bif Nat.ble (d+1) nt then gG (λp=>match p with
     |(r,s)=>k5 P t nt call yld hook ops l ((d,r)::env1) s) outs else none
    |none=>none)
   |none=>(match exE P t nt mo yld ops env1 st1 o with
    |some (env',st')=>k5 P t nt call yld hook ops l env' st'
    |none=>none))
  |none=>(match stN call ops env st o with
   |some outs=>(match o.dst with
    |some d=>bif Nat.ble (d+1) nt then gG (λp=>match p with
     |(r,s)=>k5 P t nt call yld hook ops l ((d,r)::env) s) outs else none
    |none=>none)
   |none=>(match exE P t nt mo yld ops env st o with
    |some (env',st')=>k5 P t nt call yld hook ops l env' st'
    |none=>none))
section
variable{P:Program}{t:Ty}{nt:Nat}{call:dz}{yld:jm}{hook:db}{e:En}{ops:Array Oper}{R:Env→List AO→Prop}
theorem wn{env:Env}{st:List AO}{dst:Option Tmp}{ty:TypeId}{pos:String}{after:Array Edge}{guard:Option (Nat×Bool)}{op:Op}{outs:List (AV×List AO)}(h:nxX env st op=some outs):qH P env st ⟨dst,op,ty,pos,after,guard⟩ outs:=by
 unfold nxX at h
 split at h
 ·split at h
  ·rename_i hx
   split at h
   ·rename_i hit
    split at h
    ·rename_i hmb
     obtain⟨hc,h⟩:=bK h
     obtain rfl:=inS h
     exact nx_ok hx hit hmb (by simpa only[Bool.not_eq_true'] using hc)
    ·cases h
   ·rename_i hit
    obtain rfl:=inS h
    exact wm hx hit
   ·cases h
  ·cases h
 ·cases h
theorem mD(ht:t.ok P=true)(hc:dv P call)(hyl:kK P yld)(hh:eC hook)(hn:e.n=nt):∀{l:List Oper}{env:Env}{st:List AO}{outs:List (Env×List AO)},k5 P t nt call yld hook ops l env st=some outs→(∀p∈outs,R p.1 p.2)→WL P e ops l env st R
 |[],env,st,outs,h,k=>by
  simp only[k5,af] at h
  subst h
  exact WL.nil (k _ (List.mem_singleton.2 rfl))
 |o::l,env,st,outs,h,k=>by
  have key:∀(env1:Env)(st1:List AO),(match stN call ops env1 st1 o with
   |some outs=>(match o.dst with
    |some d=>bif Nat.ble (d+1) nt then gG (λp=>match p with
     |(r,s)=>k5 P t nt call yld hook ops l ((d,r)::env1) s) outs else none
    |none=>none)
   |none=>(match exE P t nt mo yld ops env1 st1 o with
    |some (env',st')=>k5 P t nt call yld hook ops l env' st'
    |none=>none))=some outs→WL P e ops (o::l) env1 st1 R:=by
   intro env1 st1 h
   split at h
   ·rename_i os hos
    split at h
    ·rename_i d hd
     obtain⟨hb,h⟩:=bK h
     have hrest:∀p∈os,WL P e ops l ((d,p.1)::env1) p.2 R:=λp hp=>by
      obtain⟨r,h1,h2⟩:=dU h p hp
      obtain⟨r0,s0⟩:=p
      exact mD ht hc hyl hh hn h1 λq hq=>k q (h2 q hq)
     unfold stN at hos
     split at hos
     ·rename_i c hop
      split at hos
      ·rename_i x hx
       split at hos
       ·rename_i f first caps asz hw hf has
        exact WL.call (Q:=λr s=>(r,s)∈os) hop hx hf has (hc _ _ _ _ hos) (Les.refl _) (bP hw) hd (by rw[hn];exact hb) λr' s' hq=>hrest (r',s') hq
       ·cases hos
      ·cases hos
     ·rename_i x b hop
      split at hos
      ·rename_i hw
       obtain⟨od,oop,oty,opos,oaf,og⟩:=o
       simp only at hop
       subst hop
       exact WL.sN (wn hos) (bP hw) hd (by rw[hn];exact hb) hrest
      ·cases hos
     ·cases hos
    ·cases h
   ·split at h
    ·rename_i hs
     exact pb ht qY hyl hn hs (mD ht hc hyl hh hn h k)
    ·cases h
  unfold k5 at h
  split at h
  ·rename_i hk
   exact(hh e _ _ _ _ _ hk).wl (key _ _ h)
  ·exact key _ _ h
end
def nxE(o:Exit×Env×List AO):Option (List (Exit×Env×List AO)):=match o.1 with
 | .ret=>some [o]
 | .exit _=>some [o]
 |_=>none
def blE(i:Nat)(o:Exit×Env×List AO):Option (List (Exit×Env×List AO)):=match o.1 with
 | .normal=>some [o]
 | .ret=>some [o]
 | .exit j=>bif Nat.beq j i then some [(.normal,o.2)] else some [o]
 |_=>none
def isN:Exit→Bool
 | .normal=>true
 |_=>false
theorem sA{x:Exit}(h:isN x=true):x= .normal:=by cases x<;>first|rfl|cases h
def eA(P:Program)[PC P](t:Ty)(nt:Nat)(call:dz)(yld:jm)(top:Bool)(hook:db):Nat→Code→Env→List AO→Option (List (Exit×Env×List AO))
 |0,_,_,_=>none
 |n+1,c,env,st=>match c with
  | .skip=>some [(.normal,env,st)]
  | .ret=>some [(.ret,env,st)]
  | .exit i=>some [(.exit i,env,st)]
  | .seq x y=>(match eA P t nt call yld top hook n x env st with
   |some outs=>gG (λo=>bif isN o.1 then eA P t nt call yld top hook n y o.2.1 o.2.2 else nxE o) outs
   |none=>none)
  | .block i x=>(match eA P t nt call yld top hook n x env st with
   |some outs=>gG (blE i) outs
   |none=>none)
  | .cond b x y=>(match(opv env b).bind n8 with
   |some true=>eA P t nt call yld top hook n x env st
   |some false=>eA P t nt call yld top hook n y env st
   |none=>none)
  | .region _ a false=>bif bi a.toList then(match k5 P t nt call yld hook a a.toList env st with
   |some outs=>some (outs.map λp=>(.normal,p))
   |none=>none) else none
  | .region _ a true=>(match exA P t nt (ta call) a.toList env st with
   |some p=>some [(.normal,p)]
   |none=>none)
  | .loop x=>(match eA P t nt call yld top hook n x env st with
   |some outs=>gG (λo=>bif isN o.1 then eA P t nt call yld top hook n (.loop x) o.2.1 o.2.2 else nxE o) outs
   |none=>none)
  | .rangeFunc g ps asg body=>(match exC P t nt (ta call) yld top hook n (.rangeFunc g ps asg body) env st with
   |some o=>some [o]
   |none=>none)
  |_=>none
section
variable{P:Program}[PC P]{t:Ty}{nt:Nat}{call:dz}{yld:jm}{top:Bool}{hook:db}{e:En}
theorem qb(ht:t.ok P=true)(hc:dv P call)(hyl:kK P yld)(htop:top=true→e.rd=none∧e.ds=none)(hh:eC hook)(hn:e.n=nt):∀(n:Nat),
  (∀(c:Code)(env:Env)(st:List AO)(outs:List (Exit×Env×List AO))(κ:Ko),eA P t nt call yld top hook n c env st=some outs→(∀o∈outs,WE P e o.1 κ o.2.1 o.2.2)→WC P e c κ env st)∧
  (∀(c:Code)(env:Env)(st:List AO)(outs:List (Exit×Env×List AO))(κ:Ko),eA P t nt call yld top hook n (.loop c) env st=some outs→(∀o∈outs,WE P e o.1 κ o.2.1 o.2.2)→∃m,n=m+1∧WC P e c (.rl m c κ) env st)
 |0=>⟨λ_ _ _ _ _ h=>(by cases h),λ_ _ _ _ _ h=>(by cases h)⟩
 |n+1=>by
  obtain⟨iA,iB⟩:=qb ht hc hyl htop hh hn n
  have hB:∀(c:Code)(env:Env)(st:List AO)(outs:List (Exit×Env×List AO))(κ:Ko),eA P t nt call yld top hook (n+1) (.loop c) env st=some outs→(∀o∈outs,WE P e o.1 κ o.2.1 o.2.2)→∃m,n+1=m+1∧WC P e c (.rl m c κ) env st:=by
   intro c env st outs κ h k
   refine⟨n,rfl,?_⟩
   dsimp only[eA] at h
   split at h
   ·rename_i os hx
    refine iA _ _ _ _ _ hx λo ho=>?_
    obtain⟨r,h1,h2⟩:=dU h o ho
    have hk:∀q∈r,WE P e q.1 κ q.2.1 q.2.2:=λq hq=>k q (h2 q hq)
    obtain⟨x,env1,st1⟩:=o
    cases hN:isN x with
    |true=>
     simp only[hN,cdT] at h1
     obtain rfl:=sA hN
     obtain⟨m,hm,hw⟩:=iB _ _ _ _ _ h1 hk
     subst hm
     exact gv hw
    |false=>
     simp only[hN,cdF] at h1
     unfold nxE at h1
     split at h1
     ·rename_i hx1;obtain rfl:=inS h1;simp only at hx1;subst hx1;exact bT (hk _ (List.mem_singleton.2 rfl))
     ·rename_i hx1;obtain rfl:=inS h1;simp only at hx1;subst hx1;exact gO (hk _ (List.mem_singleton.2 rfl))
     ·cases h1
   ·cases h
  refine⟨?_,hB⟩
  intro c env st outs κ h k
  cases c with
  |loop c=>
   obtain⟨m,_,hw⟩:=hB _ _ _ _ _ h k
   exact iQ m hw
  |skip=>
   dsimp only[eA] at h
   obtain rfl:=inS h
   exact l6 (k _ (List.mem_singleton.2 rfl))
  |ret=>
   dsimp only[eA] at h
   obtain rfl:=inS h
   exact oN (k _ (List.mem_singleton.2 rfl))
  |exit i=>
   dsimp only[eA] at h
   obtain rfl:=inS h
   exact l7 (k _ (List.mem_singleton.2 rfl))
  |seq a b=>
   dsimp only[eA] at h
   split at h
   ·rename_i os hx
    refine jX (iA _ _ _ _ _ hx λo ho=>?_)
    obtain⟨r,h1,h2⟩:=dU h o ho
    have hk:∀q∈r,WE P e q.1 κ q.2.1 q.2.2:=λq hq=>k q (h2 q hq)
    obtain⟨x,env1,st1⟩:=o
    cases hN:isN x with
    |true=>
     simp only[hN,cdT] at h1
     obtain rfl:=sA hN
     exact l4 (iA _ _ _ _ _ h1 hk)
    |false=>
     simp only[hN,cdF] at h1
     unfold nxE at h1
     split at h1
     ·rename_i hx1;obtain rfl:=inS h1;simp only at hx1;subst hx1;exact gN (hk _ (List.mem_singleton.2 rfl))
     ·rename_i hx1;obtain rfl:=inS h1;simp only at hx1;subst hx1;exact fp (hk _ (List.mem_singleton.2 rfl))
     ·cases h1
   ·cases h
  |block i a=>
   dsimp only[eA] at h
   split at h
   ·rename_i os hx
    refine eD (iA _ _ _ _ _ hx λo ho=>?_)
    obtain⟨r,h1,h2⟩:=dU h o ho
    have hk:∀q∈r,WE P e q.1 κ q.2.1 q.2.2:=λq hq=>k q (h2 q hq)
    obtain⟨x,env1,st1⟩:=o
    unfold blE at h1
    split at h1
    ·rename_i hx1;obtain rfl:=inS h1;simp only at hx1;subst hx1;exact oL (hk _ (List.mem_singleton.2 rfl))
    ·rename_i hx1;obtain rfl:=inS h1;simp only at hx1;subst hx1;exact gP (hk _ (List.mem_singleton.2 rfl))
    ·rename_i j hx1
     simp only at hx1
     subst hx1
     cases hb:Nat.beq j i with
     |true=>
      rw[hb] at h1
      obtain rfl:=inS h1
      have:=nbE hb
      subst this
      exact gQ (hk _ (List.mem_singleton.2 rfl))
     |false=>
      rw[hb] at h1
      obtain rfl:=inS h1
      exact fw hb (hk _ (List.mem_singleton.2 rfl))
    ·cases h1
   ·cases h
  |cond b x y=>
   dsimp only[eA] at h
   split at h
   ·rename_i hb
    obtain⟨z,h1,h2⟩:=aX hb
    rw[eJ h2] at h1
    exact d6 h1 (λ_=>iA _ _ _ _ _ h k) (λh=>by cases h)
   ·rename_i hb
    obtain⟨z,h1,h2⟩:=aX hb
    rw[eJ h2] at h1
    exact d6 h1 (λh=>by cases h) (λ_=>iA _ _ _ _ _ h k)
   ·cases h
  |region id a b=>
   cases b with
   |false=>
    dsimp only[eA] at h
    obtain⟨hd,h⟩:=bK h
    split at h
    ·rename_i os hx
     obtain rfl:=inS h
     exact iR (l:=a.toList) (mD ht hc hyl hh hn hx λp hp=>k (.normal,p) (List.mem_map.2 ⟨p,hp,rfl⟩)) hd
    ·cases h
   |true=>
    dsimp only[eA] at h
    split at h
    ·rename_i p hx
     obtain rfl:=inS h
     exact sV (l:=a.toList) ht (mI hc) hn hx (k _ (List.mem_singleton.2 rfl))
    ·cases h
  |rangeFunc g ps asg body=>
   dsimp only[eA] at h
   split at h
   ·rename_i o hx
    obtain rfl:=inS h
    obtain⟨x,env1,st1⟩:=o
    exact(jh ht (mI hc) hyl htop hh hn n).1 _ _ _ _ _ _ _ hx (k _ (List.mem_singleton.2 rfl))
   ·cases h
  |_=>cases h
end
def retE(fn:Func)(P:Program)(o:Exit×Env×List AO):Option (List (AV×List AO)):=match o.1 with
 | .ret=>(match tU P o.2.1 o.2.2 fn.results.toList with
  |some r=>some [(r,o.2.2)]
  |none=>none)
 | .normal=>(match tU P o.2.1 o.2.2 fn.results.toList with
  |some r=>some [(r,o.2.2)]
  |none=>none)
 |_=>none
def sU(P:Program)[PC P](t:Ty)(call:dz)(hook:db)(fuel:Nat)(fn:Func)(asz:List AV)(st:List AO):Option (List (AV×List AO)):=
 match fn.body with
 |some c=>bif !(fn.name== "runtime.NumGoroutine")&&Nat.ble asz.length fn.ntmps then(match eA P t fn.ntmps call (vN P t (ta call) hook fuel) true hook fuel c (eS 0 asz) st with
  |some outs=>gG (retE fn P) outs
  |none=>none) else none
 |none=>none
def nS:List (AV×List AO)→List (AV×List AO)
 |[]=> []
 |p::l=>bif (nS l).any (λq=>nP p.1 q.1&&gD p.2 q.2) then nS l else p::nS l
theorem kD:∀{l:List (AV×List AO)}{p:AV×List AO},p∈l→p∈nS l
 |q::l,p,h=>by
  unfold nS
  cases hb:(nS l).any (λz=>nP q.1 z.1&&gD q.2 z.2) with
  |true=>
   rw[cdT]
   rcases List.mem_cons.1 h with rfl|h
   ·obtain⟨z,h1,h2⟩:=List.any_eq_true.1 hb
    rw[Bool.and_eq_true] at h2
    have:p=z:=Prod.ext (iD h2.1) (fW h2.2)
    rw[this];exact h1
   ·exact kD h
  |false=>
   rw[cdF]
   rcases List.mem_cons.1 h with rfl|h
   ·exact List.mem_cons_self
   ·exact List.mem_cons_of_mem _ (kD h)
def uQ(P:Program)[PC P](t:Ty)(fT:FuncId→Option Func)(kn:dz)(hook:db)(fuel:Nat):Nat→dz
 |0=>λ_ _ _=>none
 |n+1=>λf asz st=>match kn f asz st with
  |some r=>some r
  |none=>(match fT f with
   |some fn=>(match sU P t (uQ P t fT kn hook fuel n) hook fuel fn asz st with
    |some outs=>(match nS (outs.map λp=>(p.1,m7 st.length p.1 p.2)) with
     |[(r,s)]=>cx s λs'=>some [(r,s')]
     |l=>some l)
    |none=>none)
   |none=>none)
section
variable{P:Program}[PC P]{t:Ty}
theorem sR(ht:t.ok P=true){call:dz}(hc:dv P call){hook:db}(hh:eC hook){fuel:Nat}{f:FuncId}{fn:Func}(hf:P.funcs[f]? =some fn){asz:List AV}{st:List AO}{outs:List (AV×List AO)}(h:sU P t call hook fuel fn asz st=some outs):Ctr P f asz st (λr s=>(r,s)∈outs):=by
 unfold sU at h
 split at h
 ·rename_i c hb
  obtain⟨hq,h⟩:=bK h
  rw[Bool.and_eq_true,Bool.not_eq_true'] at hq
  refine jj hf hq.1 hb rfl hq.2 λm φ w _=>?_
  split at h
  ·rename_i os hx
   refine(qb (e:=⟨m,φ,w,fn.ntmps,none,none⟩) ht hc (tK ht (mI hc) hh) (λ_=>⟨rfl,rfl⟩) hh rfl fuel).1 _ _ _ _ _ hx λo ho=>?_
   obtain⟨r,h1,h2⟩:=dU h o ho
   obtain⟨x,env1,st1⟩:=o
   unfold retE at h1
   split at h1
   ·rename_i hx1
    simp only at hx1
    subst hx1
    split at h1
    ·rename_i r1 hr
     obtain rfl:=inS h1
     exact az (pJ hr) (h2 _ (List.mem_singleton.2 rfl))
    ·cases h1
   ·rename_i hx1
    simp only at hx1
    subst hx1
    split at h1
    ·rename_i r1 hr
     obtain rfl:=inS h1
     exact ej (az (pJ hr) (h2 _ (List.mem_singleton.2 rfl)))
    ·cases h1
   ·cases h1
  ·cases h
 ·cases h
theorem p9(ht:t.ok P=true){fT:FuncId→Option Func}(hT:∀f fn,fT f=some fn→P.funcs[f]? =some fn){kn:dz}(hk:dv P kn){hook:db}(hh:eC hook){fuel:Nat}:∀n,dv P (uQ P t fT kn hook fuel n)
 |0=>λ_ _ _ _ h=>by cases h
 |n+1=>λf asz st outs h=>by
  unfold uQ at h
  split at h
  ·rename_i hr
   obtain rfl:=inS h
   exact hk _ _ _ _ hr
  ·split at h
   ·rename_i fn hfn
    split at h
    ·rename_i os hx
     have h:nS (os.map λp=>(p.1,m7 st.length p.1 p.2))=outs:=by
      split at h
      ·rename_i hl
       rw[ct] at h
       rw[hl];exact inS h
      ·exact inS h
     subst h
     refine(rh (sR ht (p9 ht hT hk hh n) hh (hT _ _ hfn) hx)).imp λr s hq=>?_
     obtain⟨s0,h1,rfl⟩:=hq
     exact kD (List.mem_map.2 ⟨(r,s0),h1,rfl⟩)
    ·cases h
   ·cases h
end
def orN(a b:dz):dz:=λf asz st=>match a f asz st with
 |some r=>some r
 |none=>b f asz st
theorem wk{P:Program}{a b:dz}(ha:dv P a)(hb:dv P b):dv P (orN a b):=λf asz st outs h=>by
 unfold orN at h
 split at h
 ·rename_i h1
  obtain rfl:=inS h
  exact ha _ _ _ _ h1
 ·exact hb _ _ _ _ h
end Go.Sk
