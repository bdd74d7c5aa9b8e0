/-
  A store of slices of our own into cells of a slice of our own.
-/
import Derived.Test.YtejcfgjpdocaoaaGreatDoorT
set_option linter.unusedVariables false
set_option linter.unusedSimpArgs false
set_option linter.unusedSectionVars false
set_option linter.unnecessarySimpa false
namespace Go.Sk
open Go.RowKit (Below)
section
variable{P:Program}{env:Env}{st st':List AO}{dst:Option Tmp}{ty:TypeId}{pos:String}{after:Array Edge}{guard:Option (Nat×Bool)}
theorem lg{T:TypeId}{x y:Operand}{id ver off n T' k:Nat}{es es':List (List AV)}{r:AV}{rs:List AV}(hx:opv env x=some (.pe id ver off))(hs:st[id]? =some (.os T' k ver es))(hy:opv env y=some r)(hk:r.okS st=true)(hc:r.cells=rs)(hk1:rs.all (AV.ok1S st)=true)
  (hn:a8 P T=some n)(hl:rs.length=n)(hlen:off+n≤es.flatten.length)(hes:es'.flatten=es.flatten.take off++rs++es.flatten.drop (off+n))(hel:es'.length=es.length)(hek:∀e∈es',e.length=k):
  Does P env st ⟨dst, .store T x y,ty,pos,after,guard⟩ (.d (.v undef)) (st.set id (.os T' k ver es')):=λm φ a w hsr he=>by
 obtain⟨b,len,cap,xs,g1,g2,g3,g4,g5,g6⟩:=im hsr he hx hs
 obtain⟨us,q1,q2⟩:=dE hsr (aJ he hy) hk
 rw[hc] at q2
 have hul:=aA q2
 have hxl:=aA g4
 obtain⟨r1,r2⟩:=g3
 rcases r2 with⟨hv,_⟩|⟨g,cap',cur,hv,p1,p2,p3,p4,p5,p6⟩
 ·cases hv
 simp only[Value.slice.injEq,ak,Addr.mk.injEq,and_true] at hv
 obtain⟨rfl,rfl,rfl⟩:=hv
 have hcl:es.length*k≤cur.size:=by rw[p5];exact Nat.mul_le_mul_right _ p3
 have hfl:es.flatten.length=es.length*k:=oM
 have hst:=run_storeCells_at P b off T' us 0 cur w p2 oM (gb hsr q2 hk1)
 simp only[Nat.add_zero,hul,hl] at hst
 have hsize:us.length=n:=oM
 have hnew:RAs m φ w es'.flatten (xs.take off++us++xs.drop (off+n)):=by rw[hes];exact aD (aD (bx off g4) q2) (bz _ g4)
 have htk:((cur.toList.take off++us++cur.toList.drop (off+n)).toArray.toList).take (es.length*k)=xs.take off++us++xs.drop (off+n):=by
  rw[←p6]
  apply List.ext_getElem?
  intro j
  have hcz:cur.toList.length=cur.size:=sM
  simp only[List.getElem?_take,List.getElem?_append,List.length_append,List.length_take,List.getElem?_drop,hsize,hcz]
  rw[Nat.min_eq_left (show off≤cur.size by omega),Nat.min_eq_left (show es.length*k≤cur.size by omega),Nat.min_eq_left (show off≤es.length*k by omega)]
  by_cases h1:j<es.length*k
  ·rw[if_pos h1]
   by_cases h2:j<off+n
   ·rw[if_pos h2,if_pos h2]
    by_cases h3:j<off
    ·simp only[if_pos h3,if_pos h1]
    ·simp only[if_neg h3]
   ·rw[if_neg h2,if_neg h2]
    have:off+n+(j - (off+n))=j:=oM
    rw[this,if_pos h1]
  ·rw[if_neg h1,if_neg (show¬j<off+n by omega)]
   have:off+n+(j - (off+n))=j:=oM
   rw[this,if_neg h1]
 obtain⟨k1,k2⟩:=oQ hsr hs g1 hnew hel hek cur p2 (cur.toList.take off++us++cur.toList.drop (off+n)).toArray (by simp[hsize];omega) htk
 refine⟨undef,_,m,φ, .inr ⟨?_,rfl⟩,k1,k2,RAv⟩
 simp[execOp,Instr.storeAt,Instr.sureAddr,g2,storeVar,q1,aN hn,hsize,hst]
end
theorem bV{α:Type}{c:Bool}{a:Option α}{r:α}(h:(bif c then a else none)=some r):c=true∧a=some r:=by
 cases c
 ·cases h
 ·exact⟨rfl,h⟩
theorem bifN{α:Type}{c:Bool}{a:Option α}{r:α}(h:(bif c then none else a)=some r):c=false∧a=some r:=by
 cases c
 ·exact⟨rfl,h⟩
 ·cases h
def gq:AV→Option (IntKind×Int)
 | .d (.v (.int k i))=>some (k,i)
 |_=>none
theorem cq{x:AV}{k:IntKind}{i:Int}(h:gq x=some (k,i)):x= .d (.v (.int k i)):=by
 unfold gq at h
 split at h
 ·simp only[ak,Prod.mk.injEq] at h
  rw[h.1,h.2]
 ·cases h
def osA(st:List AO)(id ver:Nat):Option (Nat×Nat×List (List AV)):=match st[id]? with
 |some (.os T k v es)=>bif Nat.beq v ver then some (T,k,es) else none
 |_=>none
theorem dr{st:List AO}{id ver T k:Nat}{es:List (List AV)}(h:osA st id ver=some (T,k,es)):st[id]? =some (.os T k ver es):=by
 unfold osA at h
 split at h
 ·rename_i T' k' v es' hs
  cases hb:Nat.beq v ver with
  |false=>rw[hb] at h;cases h
  |true=>
   rw[hb] at h
   simp only[cdT,ak,Prod.mk.injEq] at h
   obtain⟨rfl,rfl,rfl⟩:=h
   rw[hs,nbE hb]
 ·cases h
def ixS(P:Program)(st:List AO)(T:Nat)(xr:AV)(i:Int):Option AV:=
 match aH P T with
 |some (n,_)=>bif decide (0≤i) then(match xr with
  | .d (.sl es)=>(match es[i.toNat]? with
   |some cs=>bif Nat.beq cs.length n then some (.d (.pc cs)) else none
   |none=>none)
  | .os id ver=>(match osA st id ver with
   |some (_,_,es)=>bif decide (i<es.length) then some (.pe id ver (i.toNat*n)) else none
   |none=>none)
  |_=>none) else none
 |none=>none
def o8(P:Program)(st:List AO)(T:Nat):AV→Option AV
 | .pe id ver off=>match osA st id ver with
  |some (_,_,es)=>(match aR P T,a8 P T with
   |some false,_=>es.flatten[off]?
   |some true,some n=>bif decide (off+n≤es.flatten.length) then some (.ag ((es.flatten.drop off).take n)) else none
   |_,_=>none)
  |none=>none
 |_=>none
def faX(P:Program)(st:List AO)(S i:Nat):AV→Option AV
 | .pe id ver off=>match osA st id ver,bS P S i with
  |some _,some (fo,_+1,_)=>some (.pe id ver (off+fo))
  |_,_=>none
 |_=>none
def ncX(st:List AO):AV→Option AV
 | .pe id ver off=>match osA st id ver with
  |some _=>some (.pe id ver off)
  |none=>none
 |_=>none
def lenX(P:Program)(st:List AO)(T:Nat):AV→Option AV
 | .d (.sl es)=>match aH P T with
  |some _=>some (.d (.v (.int .i64 es.length)))
  |none=>none
 | .os id ver=>match aH P T,osA st id ver with
  |some _,some (_,_,es)=>some (.d (.v (.int .i64 es.length)))
  |_,_=>none
 | .d (.v (.string s))=>match P.underlying T with
  |some .string=>some (.d (.v (.int .i64 s.size)))
  |_=>none
 | .d (.v (.slice none 0 0))=>match aH P T with
  |some _=>some (.d (.v (.int .i64 0)))
  |none=>none
 |_=>none
def bitX(k:IntKind)(p q:Int):BinOp→Option AV
 | .and=>some (.d (.v (.int k (k.wrap (BitVec.ofInt k.bits p&&&BitVec.ofInt k.bits q).toNat))))
 | .or=>some (.d (.v (.int k (k.wrap (BitVec.ofInt k.bits p|||BitVec.ofInt k.bits q).toNat))))
 | .xor=>some (.d (.v (.int k (k.wrap (BitVec.ofInt k.bits p^^^BitVec.ofInt k.bits q).toNat))))
 | .quo=>bif decide (q=0) then none else some (.d (.v (.int k (k.wrap (p.tdiv q)))))
 | .rem=>bif decide (q=0) then none else some (.d (.v (.int k (p.tmod q))))
 |_=>none
def shX(k:IntKind)(p q:Int):BinOp→Option AV
 | .shr=>bif decide (0≤q) then some (.d (.v (.int k (p.fdiv (2^min q.toNat k.bits))))) else none
 | .shl=>bif decide (0≤q) then some (.d (.v (.int k (k.wrap (p*2^min q.toNat k.bits))))) else none
 |_=>none
def rf(env:Env)(o:Option Operand)(d:Nat):Option Nat:=match o with
 |none=>some d
 |some x=>match(opv env x).bind gq with
  |some (_,i)=>bif decide (0≤i) then some i.toNat else none
  |none=>none
theorem nr{env:Env}{o:Option Operand}{d n:Nat}(h:rf env o d=some n):Bnd env o d n:=by
 cases o with
 |none=>exact(inS h).symm
 |some x=>
  dsimp only[rf] at h
  split at h
  ·rename_i k i hx
   obtain⟨z,h1,h2⟩:=bh hx
   rw[cq h2] at h1
   by_cases hi:0≤i
   ·rw[dcT hi] at h
    exact⟨k,i,h1,hi,inS h⟩
   ·rw[dcF hi] at h;cases h
  ·cases h
def oO(P:Program)(env:Env)(T:Nat)(lo hi:Option Operand):AV→Option AV
 | .d (.sl es)=>match aH P T,rf env lo 0,rf env hi es.length with
  |some (n,_),some l,some h=>bif decide (l≤h)&&(decide (h≤es.length)&&es.all λe=>Nat.beq e.length n) then some (.d (.sl ((es.drop l).take (h - l)))) else none
  |_,_,_=>none
 |_=>none
def pM(P:Program)(env:Env)(st:List AO)(T:Nat)(parts:Array (Nat×Operand)):Option AV:=
 match bj P T,aK P T,bo env (parts.toList.map (·.2)) with
 |some pl,some zs,some xs=>(match eH st (λi=>pl[i]?) (zs.map λv=> .d (.v v)) (iR parts.toList xs) with
  |some cs=>some (.ag cs)
  |none=>none)
 |_,_,_=>none
def sq(P:Program)(st:List AO)(T:Nat):AV→Option AV
 | .d (.v (.slice none 0 0))=>match P.underlying T with
  |some (.slice _)=>some (.d (.v (.bool true)))
  |_=>none
 | .d (.sl (_::_))=>match P.underlying T with
  |some (.slice _)=>some (.d (.v (.bool false)))
  |_=>none
 | .os id ver=>match P.underlying T,osA st id ver with
  |some (.slice _),some (_,_,_::_)=>some (.d (.v (.bool false)))
  |_,_=>none
 |_=>none
def mN:List AV→Option (List Value)
 |[]=>some []
 | .d (.v v)::l=>match mN l with
  |some vs=>some (v::vs)
  |none=>none
 |_=>none
def mO:List D→Option (List Value)
 |[]=>some []
 | .v v::l=>match mO l with
  |some vs=>some (v::vs)
  |none=>none
 |_=>none
def agV:AV→Option (List Value)
 | .ag ps=>mN ps
 | .d (.ag ds)=>mO ds
 |_=>none
theorem kH:∀{ps:List AV}{vs:List Value},mN ps=some vs→ps=(vs.map D.v).map AV.d
 |[],vs,h=>by obtain rfl:=inS h;rfl
 |x::l,vs,h=>by
  unfold mN at h
  split at h
  ·rename_i h0;cases h0
  ·rename_i v l' h0
   obtain⟨rfl,rfl⟩:=List.cons.inj h0
   split at h
   ·rename_i vs' h1
    obtain rfl:=inS h
    rw[kH h1]
    rfl
   ·cases h
  ·cases h
theorem kI:∀{ps:List D}{vs:List Value},mO ps=some vs→ps=vs.map D.v
 |[],vs,h=>by obtain rfl:=inS h;rfl
 |x::l,vs,h=>by
  unfold mO at h
  split at h
  ·rename_i h0;cases h0
  ·rename_i v l' h0
   obtain⟨rfl,rfl⟩:=List.cons.inj h0
   split at h
   ·rename_i vs' h1
    obtain rfl:=inS h
    rw[kI h1]
    rfl
   ·cases h
  ·cases h
theorem kg{x:AV}{vs:List Value}(h:agV x=some vs):Le x (.d (.ag (vs.map D.v))):=by
 unfold agV at h
 split at h
 ·rw[kH h];exact aP (Les.refl _)
 ·rw[kI h];exact Le.refl _
 ·cases h
def eqX(P:Program)(T:Nat):Option (List Value)→Option (List Value)→BinOp→Option AV
 |some xs,some ys, .eql=>(match fh P T with
  |some ks=>bif bg ks xs&&bg ks ys then some (.d (.v (.bool (eqL xs ys)))) else none
  |none=>none)
 |some xs,some ys, .neq=>(match fh P T with
  |some ks=>bif bg ks xs&&bg ks ys then some (.d (.v (.bool (!eqL xs ys)))) else none
  |none=>none)
 |_,_,_=>none
def sJ(P:Program)(T:Nat):Option AV→Option AV→BinOp→Option AV
 |some (.d (.v (.bool p))),some (.d (.v (.bool q))), .eql=>(match P.underlying T with
  |some .bool=>some (.d (.v (.bool (p==q))))
  |_=>none)
 |some (.d (.v (.string p))),some (.d (.v (.string q))), .eql=>some (.d (.v (.bool (p.toList==q.toList))))
 |_,_,_=>none
def exY(P:Program)(t:Ty)(env:Env)(st:List AO)(op:Op):Option AV:=
 match fF t env st op with
 |some r=>some r
 |none=>match op with
  | .indexAddr T x ix=>(match opv env x,(opv env ix).bind gq with
   |some xr,some (_,i)=>ixS P st T xr i
   |_,_=>none)
  | .load T x=>(opv env x).bind (o8 P st T)
  | .fieldAddr S x i=>(opv env x).bind (faX P st S i)
  | .nilCheck x=>(opv env x).bind (ncX st)
  | .call c=>(match c.callee,c.args.toList,c.argTypes.toList with
   | .builtin .len,[x],[T]=>(opv env x).bind (lenX P st T)
   | .builtin .max,[x,y],[_,_]=>(match(opv env x).bind gq,(opv env y).bind gq with
    |some (k,p),some (k',q)=>bif decide (k=k') then some (.d (.v (.int k (if q>p then q else p)))) else none
    |_,_=>none)
   | .builtin .min,[x,y],[_,_]=>(match(opv env x).bind gq,(opv env y).bind gq with
    |some (k,p),some (k',q)=>bif decide (k=k') then some (.d (.v (.int k (if q<p then q else p)))) else none
    |_,_=>none)
   |_,_,_=>none)
  | .binOp .eql T x (.const (.slice none 0 0)) _=>(opv env x).bind (sq P st T)
  | .binOp b T x y _=>(match(opv env x).bind gq,(opv env y).bind gq with
   |some (k,p),some (k',q)=>(match shX k p q b with
    |some r=>some r
    |none=>bif decide (k=k') then bitX k p q b else none)
   |_,_=>(match eqX P T ((opv env x).bind agV) ((opv env y).bind agV) b with
    |some r=>some r
    |none=>sJ P T (opv env x) (opv env y) b))
  | .slice T x lo hi none=>(opv env x).bind (oO P env T lo hi)
  | .build T parts=>pM P env st T parts
  | .index T x ix=>(match opv env x,(opv env ix).bind gq,P.underlying T with
   |some (.d (.v (.string s))),some (_,i),some .string=>(match dg s i with
    |some r=>some (.d (.v (.int .u8 r)))
    |none=>none)
   |_,_,_=>none)
  |_=>none
section
variable{P:Program}{t:Ty}{env:Env}{st:List AO}{dst:Option Tmp}{ty:TypeId}{pos:String}{after:Array Edge}{guard:Option (Nat×Bool)}
theorem kB{x:Operand}{id ver off Te k:Nat}{es:List (List AV)}(hx:opv env x=some (.pe id ver off))(hi:st[id]? =some (.os Te k ver es)):Yields P env st ⟨dst, .nilCheck x,ty,pos,after,guard⟩ (.pe id ver off):=λm φ a w hs he=>by
 obtain⟨p,h2⟩:=sg hs he hx hi
 refine⟨_,aJ he hx,λw' _=>?_⟩
 simp[execOp,h2]
theorem so{T:Nat}{x ix:Operand}{xr r:AV}{k:IntKind}{i:Int}(hx:opv env x=some xr)(hi:opv env ix=some (.d (.v (.int k i))))(h:ixS P st T xr i=some r):Yields P env st ⟨dst, .indexAddr T x ix,ty,pos,after,guard⟩ r:=by
 unfold ixS at h
 split at h
 ·rename_i n bb hT
  by_cases h0:0≤i
  ·rw[dcT h0,cdT] at h
   split at h
   ·rename_i es
    split at h
    ·rename_i cs hc
     cases hb:Nat.beq cs.length n with
     |false=>rw[hb] at h;cases h
     |true=>
      rw[hb] at h
      obtain rfl:=inS h
      exact ah hT hx (Le.refl _) hi h0 hc (nbE hb)
    ·cases h
   ·rename_i id ver
    split at h
    ·rename_i T' k' es ho
     by_cases h1:i<es.length
     ·rw[dcT h1] at h
      obtain rfl:=inS h
      exact aV hT hx (dr ho) hi h0 h1
     ·rw[dcF h1] at h;cases h
    ·cases h
   ·cases h
  ·rw[dcF h0] at h;cases h
 ·cases h
theorem o7{T:Nat}{x:Operand}{xr r:AV}(hx:opv env x=some xr)(h:o8 P st T xr=some r):Yields P env st ⟨dst, .load T x,ty,pos,after,guard⟩ r:=by
 unfold o8 at h
 split at h
 ·split at h
  ·rename_i ho
   split at h
   ·rename_i ha;exact bM hx (dr ho) ha h
   ·rename_i n ha hn
    obtain⟨hl,h⟩:=bV h
    obtain rfl:=inS h
    exact lU hx (dr ho) ha hn (of_decide_eq_true hl)
   ·cases h
  ·cases h
 ·cases h
theorem jH{T T' E:Nat}{x:Operand}{b:Bool}(hT:P.underlying T=some (.slice E))(h:∀(m:List Cz)(φ:Nat→Nat)(a:Act)(w:World),SR m φ st w→EnvOk m φ w env a→∃ad ll cc,a.eval x= .slice ad ll cc∧ad.isNone=b):
  Yields P env st ⟨dst, .binOp .eql T x (.const (.slice none 0 0)) T',ty,pos,after,guard⟩ (.d (.v (.bool b))):=λm φ a w hs he=>by
 obtain⟨ad,ll,cc,h2,h3⟩:=h m φ a w hs he
 refine⟨.bool b,RAv,λw' _=>?_⟩
 have hc:a.eval (.const (.slice none 0 0))= .slice none 0 0:=rfl
 subst h3
 simp[execOp,h2,hc,eqGuard,binOp,run_equal_slice_nil w' T E ad ll cc hT]
theorem qN{T T':Nat}{x:Operand}{xr r:AV}(hx:opv env x=some xr)(h:sq P st T xr=some r):Yields P env st ⟨dst, .binOp .eql T x (.const (.slice none 0 0)) T',ty,pos,after,guard⟩ r:=by
 unfold sq at h
 split at h
 ·split at h
  ·rename_i hT
   obtain rfl:=inS h
   refine jH hT λm φ a w hs he=>?_
   have h1:=aJ he hx
   simp only[RA,RD] at h1
   exact⟨none,0,0,h1,rfl⟩
  ·cases h
 ·rename_i c es
  split at h
  ·rename_i hT
   obtain rfl:=inS h
   refine jH hT λm φ a w hs he=>?_
   have h1:=aJ he hx
   simp only[RA] at h1
   obtain⟨ad,ll,cc,h2,h3⟩:=s5 h1
   refine⟨ad,ll,cc,h2,?_⟩
   cases hn:ad.isNone with
   |false=>rfl
   |true=>cases h3 hn
  ·cases h
 ·split at h
  ·rename_i hT ho
   obtain rfl:=inS h
   refine jH hT λm φ a w hs he=>?_
   obtain⟨y,xs,h1,h2,h3,_⟩:=jR hs he hx (dr ho)
   rcases h3.2 with⟨rfl,hn⟩|⟨g,cap,cur,rfl,_⟩
   ·simp at hn
   ·exact⟨_,_,_,h2,rfl⟩
  ·cases h
 ·cases h
theorem sK{T T':Nat}{b:BinOp}{x y:Operand}{r:AV}(h:eqX P T ((opv env x).bind agV) ((opv env y).bind agV) b=some r):Yields P env st ⟨dst, .binOp b T x y T',ty,pos,after,guard⟩ r:=by
 unfold eqX at h
 split at h
 ·rename_i xs ys h1 h2
  obtain⟨z,g1,g2⟩:=bh h1
  obtain⟨z',k1,k2⟩:=bh h2
  split at h
  ·rename_i ks hk
   obtain⟨hc,h⟩:=bV h
   obtain rfl:=inS h
   rw[Bool.and_eq_true] at hc
   exact lY hk g1 (kg g2) k1 (kg k2) hc.1 hc.2 rfl
  ·cases h
 ·rename_i xs ys h1 h2
  obtain⟨z,g1,g2⟩:=bh h1
  obtain⟨z',k1,k2⟩:=bh h2
  split at h
  ·rename_i ks hk
   obtain⟨hc,h⟩:=bV h
   obtain rfl:=inS h
   rw[Bool.and_eq_true] at hc
   exact rP hk g1 (kg g2) k1 (kg k2) hc.1 hc.2 rfl
  ·cases h
 ·cases h
theorem qY{T T':Nat}{b:BinOp}{x y:Operand}{r:AV}(h:sJ P T (opv env x) (opv env y) b=some r):Yields P env st ⟨dst, .binOp b T x y T',ty,pos,after,guard⟩ r:=by
 unfold sJ at h
 split at h
 ·rename_i h1 h2
  split at h
  ·rename_i hT
   obtain rfl:=inS h
   exact ry hT h1 h2
  ·cases h
 ·rename_i h1 h2
  obtain rfl:=inS h
  exact rx h1 h2
 ·cases h
theorem pA(ht:t.ok P=true){op:Op}{r:AV}(h:exY P t env st op=some r):Yields P env st ⟨dst,op,ty,pos,after,guard⟩ r:=by
 unfold exY at h
 split at h
 ·rename_i r' hr
  obtain rfl:=inS h
  exact ic ht hr
 ·split at h
  ·rename_i T x ix
   split at h
   ·rename_i xr k i hx hi
    obtain⟨z,h1,h2⟩:=bh hi
    rw[cq h2] at h1
    exact so hx h1 h
   ·cases h
  ·obtain⟨z,h1,h2⟩:=bh h
   exact o7 h1 h2
  ·obtain⟨z,h1,h2⟩:=bh h
   unfold faX at h2
   split at h2
   ·split at h2
    ·rename_i ho hf
     obtain rfl:=inS h2
     exact hN hf h1 (dr ho)
    ·cases h2
   ·cases h2
  ·obtain⟨z,h1,h2⟩:=bh h
   unfold ncX at h2
   split at h2
   ·split at h2
    ·rename_i ho
     obtain rfl:=inS h2
     exact kB h1 (dr ho)
    ·cases h2
   ·cases h2
  ·rename_i c _
   split at h
   ·rename_i x T hc ha hg
    have hcc:c=⟨.builtin .len, #[x], #[T]⟩:=by
     obtain⟨c1,c2,c3⟩:=c
     simp only at hc ha hg
     subst hc
     have e2:c2= #[x]:=by rw[←ha]
     have e3:c3= #[T]:=by rw[←hg]
     rw[e2,e3]
    obtain⟨z,h1,h2⟩:=bh h
    unfold lenX at h2
    split at h2
    ·split at h2
     ·rename_i hT;obtain rfl:=inS h2;exact hH hT hcc h1 (Le.refl _)
     ·cases h2
    ·split at h2
     ·rename_i hT ho;obtain rfl:=inS h2;exact kE hT hcc h1 (dr ho)
     ·cases h2
    ·split at h2
     ·rename_i hT;obtain rfl:=inS h2;exact cW hT hcc h1
     ·cases h2
    ·split at h2
     ·rename_i hT;obtain rfl:=inS h2;exact hH (es:=[]) hT hcc h1 Le.nil
     ·cases h2
    ·cases h2
   ·rename_i x y T1 T2 hc ha hg
    have hcc:c=⟨.builtin .max, #[x,y], #[T1,T2]⟩:=by
     obtain⟨c1,c2,c3⟩:=c
     simp only at hc ha hg
     subst hc
     have e2:c2= #[x,y]:=by rw[←ha]
     have e3:c3= #[T1,T2]:=by rw[←hg]
     rw[e2,e3]
    split at h
    ·rename_i hx hy
     have hk:=of_decide_eq_true (bV h).1
     have h3:=(bV h).2
     clear h
     subst hk
     obtain rfl:=inS h3
     obtain⟨z,h1,h2⟩:=bh hx
     rw[cq h2] at h1
     obtain⟨z',g1,g2⟩:=bh hy
     rw[cq g2] at g1
     exact mJ hcc h1 g1
    ·cases h
   ·rename_i x y T1 T2 hc ha hg
    have hcc:c=⟨.builtin .min, #[x,y], #[T1,T2]⟩:=by
     obtain⟨c1,c2,c3⟩:=c
     simp only at hc ha hg
     subst hc
     have e2:c2= #[x,y]:=by rw[←ha]
     have e3:c3= #[T1,T2]:=by rw[←hg]
     rw[e2,e3]
    split at h
    ·rename_i hx hy
     have hk:=of_decide_eq_true (bV h).1
     have h3:=(bV h).2
     clear h
     subst hk
     obtain rfl:=inS h3
     obtain⟨z,h1,h2⟩:=bh hx
     rw[cq h2] at h1
     obtain⟨z',g1,g2⟩:=bh hy
     rw[cq g2] at g1
     exact mI hcc h1 g1
    ·cases h
   ·cases h
  ·obtain⟨z,h1,h2⟩:=bh h
   exact qN h1 h2
  ·rename_i b T x y T' _ _
   split at h
   ·rename_i k p k' q hx hy
    obtain⟨z,h1,h2⟩:=bh hx
    rw[cq h2] at h1
    obtain⟨z',g1,g2⟩:=bh hy
    rw[cq g2] at g1
    split at h
    ·rename_i r' hr
     obtain rfl:=inS h
     cases b<;>simp only[shX] at hr<;>first|cases hr|skip
     ·obtain⟨h0,hr⟩:=bV hr;obtain rfl:=inS hr;exact y_shl h1 g1 (of_decide_eq_true h0) rfl
     ·obtain⟨h0,hr⟩:=bV hr;obtain rfl:=inS hr;exact y_shr h1 g1 (of_decide_eq_true h0)
    ·obtain⟨hk,h⟩:=bV h
     obtain rfl:=of_decide_eq_true hk
     cases b<;>simp only[bitX] at h<;>first|cases h|skip
     ·obtain⟨h0,h⟩:=bifN h;obtain rfl:=inS h;exact ru h1 g1 (of_decide_eq_false h0) rfl
     ·obtain⟨h0,h⟩:=bifN h;obtain rfl:=inS h;exact y_rem h1 g1 (of_decide_eq_false h0)
     ·exact rz h1 g1 rfl
     ·exact rO h1 g1 rfl
     ·exact y_xor h1 g1 rfl
   ·split at h
    ·rename_i hq
     obtain rfl:=inS h
     exact sK hq
    ·exact qY h
  ·obtain⟨z,h1,h2⟩:=bh h
   unfold oO at h2
   split at h2
   ·split at h2
    ·rename_i hT hl hhi
     obtain⟨hc,h2⟩:=bV h2
     obtain rfl:=inS h2
     simp only[Bool.and_eq_true] at hc
     exact mH hT h1 (Le.refl _) (nr hl) (nr hhi) (of_decide_eq_true hc.1) (of_decide_eq_true hc.2.1) (λe he=>nbE (List.all_eq_true.1 hc.2.2 e he))
    ·cases h2
   ·cases h2
  ·unfold pM at h
   split at h
   ·rename_i pl zs xs hp hz hx
    split at h
    ·rename_i cs hf
     obtain rfl:=inS h
     exact oA hp hz hx hf
    ·cases h
   ·cases h
  ·split at h
   ·rename_i hx hi hT
    obtain⟨z,h1,h2⟩:=bh hi
    rw[cq h2] at h1
    split at h
    ·rename_i hr
     obtain rfl:=inS h
     exact bw hT hx h1 hr
    ·cases h
   ·cases h
  ·cases h
end
theorem Does.nil_os{P:Program}{env:Env}{st st':List AO}{o:Oper}{r:AV}(t T k:Nat)(ht:env.get t=some (.d (.v (.slice none 0 0))))(h:Does P ((t, .os st.length 0)::env) (st++ [.os T k 0 []]) o r st'):Does P env st o r st':=λm φ a w hs he=>by
 obtain⟨h1,h2⟩:=mR (T:=T) (k:=k) hs
 have h3:EnvOk (m++ [.tok 0 (.slice none 0 0)]) φ w env a:=he.mono (Pre.append _ _) (Fz.refl φ w)
 have h4:EnvOk (m++ [.tok 0 (.slice none 0 0)]) φ w ((t, .os st.length 0)::env) a:=⟨λs x hx=>by
  unfold Env.get at hx
  cases hb:Nat.beq s t with
  |true=>
   rw[hb] at hx
   simp only[cdT,ak] at hx
   subst hx
   have:s=t:=nbE hb
   subst this
   obtain⟨v,g1,g2⟩:=he s _ ht
   simp only[RA,RD] at g2
   subst g2
   refine⟨_,g1,?_⟩
   simp only[RA]
   exact⟨0,_,by rw[←hs.len];simp,Nat.le_refl _,λ_=>rfl⟩
  |false=>rw[hb] at hx;exact h3 s x hx,h3.gl⟩
 obtain⟨v,w',m',φ',k1,k2,k3,k4⟩:=h _ φ a w h2 h4
 exact⟨v,w',m',φ',k1,h1.trans k2,k3,k4⟩
def fq(k:Nat):Nat→List AV→List (List AV)
 |0,_=> []
 |n+1,xs=>xs.take k::fq k n (xs.drop k)
theorem jz(k:Nat):∀(n:Nat)(xs:List AV),xs.length=n*k→(fq k n xs).flatten=xs∧(fq k n xs).length=n∧∀e∈fq k n xs,e.length=k
 |0,xs,h=>by
  have:xs=[]:=List.eq_nil_of_length_eq_zero (by simpa using h)
  subst this
  exact⟨rfl,rfl,λe he=>by cases he⟩
 |n+1,xs,h=>by
  have hk:k≤xs.length:=by rw[h,Nat.succ_mul];omega
  obtain⟨h1,h2,h3⟩:=jz k n (xs.drop k) (by rw[List.length_drop,h,Nat.succ_mul];omega)
  refine⟨?_,?_,λe he=>?_⟩
  ·show xs.take k++(fq k n (xs.drop k)).flatten=xs
   rw[h1,List.take_append_drop]
  ·show(fq k n (xs.drop k)).length+1=n+1
   rw[h2]
  ·rcases List.mem_cons.1 he with rfl|he
   ·rw[List.length_take];omega
   ·exact h3 e he
theorem ju{k:Nat}:∀{es:List (List AV)},(∀e∈es,e.length=k)→es.flatten.length=es.length*k
 |[],_=>sM
 |e::es,h=>by
  rw[List.flatten_cons,List.length_append,ju (λe' he=>h e' (List.mem_cons_of_mem _ he)),h e List.mem_cons_self,List.length_cons,Nat.succ_mul]
  omega
def rZ(st:List AO)(k:Nat):AV→Option (List (List AV))
 | .d (.sl ds)=>bif ds.all (λe=>Nat.beq e.length k) then some (ds.map λe=>e.map AV.d) else none
 | .os id ver=>match osA st id ver with
  |some (_,k',fs)=>bif Nat.beq k' k then some fs else none
  |none=>none
 | .d (.v (.slice none 0 0))=>some []
 |_=>none
theorem qb{st:List AO}{k:Nat}{x:AV}{fs:List (List AV)}(h:rZ st k x=some fs):Src st x k fs:=by
 unfold rZ at h
 split at h
 ·obtain⟨hc,h⟩:=bV h
  obtain rfl:=inS h
  exact Src.data (Le.refl _) (λe he=>nbE (List.all_eq_true.1 hc e he))
 ·split at h
  ·rename_i ho
   obtain⟨hc,h⟩:=bV h
   obtain rfl:=inS h
   have e:=nbE hc
   subst e
   exact Src.own (dr ho)
  ·cases h
 ·obtain rfl:=inS h
  exact Src.data (ds:=[]) Le.nil (λe he=>by cases he)
 ·cases h
def ri(P:Program)(env:Env)(st:List AO)(s x:Operand)(T:Nat):Option (AV×List AO):=
 match opv env s,opv env x,cy P T with
 |some (.os id ver),some xr,some (e,k,by_)=>(match osA st id ver,rZ st k xr,aK P e with
  |some (e',k',es),some fs,some zs=>bif Nat.beq e' e&&(Nat.beq k' k&&(Nat.beq zs.length k&&(Nat.blt 0 k&&(fs.flatten.all (AV.ok1S st)&&(fs.all (λf=>Nat.beq f.length k)&&(decide (es.length+fs.length≤maxLen)&&decide ((es.length+fs.length)*by_≤140737488355328)))))))
   then some (.os id (ver+1),st.set id (.os e k (ver+1) (es++fs))) else none
  |_,_,_=>none)
 |_,_,_=>none
def ma(P:Program)(env:Env)(st:List AO)(T:Nat)(x y:Operand):Option (AV×List AO):=
 match opv env x,opv env y,a8 P T with
 |some (.pt id off),some r,some n=>(match st[id]? with
  |some (.row T' cs)=>bif r.okS st&&(r.cells.all (AV.ok1S st)&&(Nat.beq r.cells.length n&&Nat.ble (off+n) cs.length)) then some (.d (.v undef),st.set id (.row T' (cs.take off++r.cells++cs.drop (off+n)))) else none
  |_=>none)
 |some (.pe id ver off),some r,some n=>(match osA st id ver with
  |some (T',k,es)=>bif r.okS st&&(r.cells.all (AV.ok1S st)&&(Nat.beq r.cells.length n&&(decide (off+n≤es.flatten.length)&&es.all λe=>Nat.beq e.length k)))
   then some (.d (.v undef),st.set id (.os T' k ver (fq k es.length (es.flatten.take off++r.cells++es.flatten.drop (off+n))))) else none
  |none=>none)
 |_,_,_=>none
def mkX(P:Program)(env:Env)(st:List AO)(T:Nat)(x y:Operand):Option (AV×List AO):=
 match(opv env x).bind gq,(opv env y).bind gq,cy P T with
 |some (_,n),some (_,n'),some (e,k,by_)=>(match aK P e with
  |some zs=>bif decide (n=n')&&(Nat.beq zs.length k&&(Nat.blt 0 k&&qJ by_ n)) then some (.os st.length 0,st++ [.os e k 0 (List.replicate n.toNat (zs.map λz=> .d (.v z)))]) else none
  |none=>none)
 |_,_,_=>none
def sT(P:Program)(env:Env)(st:List AO)(T len:Nat)(parts:Array (Nat×Operand)):Option (AV×List AO):=
 bif Nat.beq len 0&&parts.isEmpty then(match cy P T with
  |some (e,k,_)=>some (.os st.length 0,st++ [.os e k 0 []])
  |none=>none) else
 match cy P T,bo env (parts.toList.map (·.2)) with
 |some (e,k,_),some xs=>(match aK P e with
  |some zs=>bif Nat.beq zs.length k&&(decide (len*k≤16777216)&&(Nat.blt 0 (len*k)&&(decide (parts.toList.map (·.1)=List.range len)&&((xs.all λx=>x.okS st&&Nat.beq x.cells.length k)&&decide (len≤maxLen)))))
   then some (.os st.length 0,st++ [.os e k 0 (xs.map AV.cells)]) else none
  |none=>none)
 |_,_=>none
def appN(P:Program)(env:Env)(st:List AO)(s x:Operand)(T:Nat):Option (AV×List AO):=
 match s with
 | .tmp t=>(match env.get t,cy P T with
  |some (.d (.v (.slice none 0 0))),some (e,k,_)=>ri P ((t, .os st.length 0)::env) (st++ [.os e k 0 []]) s x T
  |_,_=>none)
 |_=>none
def exD(P:Program)(env:Env)(st:List AO):Op→Option (AV×List AO)
 | .box T x=>match opv env x with
  |some r=>bif r.okS st then some (.pt st.length 0,st++ [.row T r.cells]) else none
  |none=>none
 | .alloc T=>match aK P T with
  |some vs=>some (.pt st.length 0,st++ [.row T (vs.map λv=> .d (.v v))])
  |none=>none
 | .store T x y=>ma P env st T x y
 | .makeSlice T x y=>mkX P env st T x y
 | .buildSlice T len parts=>sT P env st T len parts
 | .call c=>(match c.callee,c.args.toList,c.argTypes.toList with
  | .builtin .append,[s,x],[T,T']=>bif Nat.beq T T' then(match ri P env st s x T with
   |some r=>some r
   |none=>appN P env st s x T) else none
  |_,_,_=>none)
 |_=>none
section
variable{P:Program}{env:Env}{st st':List AO}{dst:Option Tmp}{ty:TypeId}{pos:String}{after:Array Edge}{guard:Option (Nat×Bool)}
theorem nQ{T:Nat}{x y:Operand}{r:AV}(h:ma P env st T x y=some (r,st')):Does P env st ⟨dst, .store T x y,ty,pos,after,guard⟩ r st':=by
 unfold ma at h
 split at h
 ·rename_i hx hy hn
  split at h
  ·rename_i hs
   obtain⟨hc,h⟩:=bV h
   simp only[ak,Prod.mk.injEq] at h
   obtain⟨rfl,rfl⟩:=h
   simp only[Bool.and_eq_true] at hc
   exact pJ hx hs hy hc.1 rfl hc.2.1 hn (nbE hc.2.2.1) hc.2.2.2
  ·cases h
 ·rename_i id ver off r0 n hx hy hn
  split at h
  ·rename_i T' k es ho
   obtain⟨hc,h⟩:=bV h
   simp only[ak,Prod.mk.injEq] at h
   obtain⟨rfl,rfl⟩:=h
   simp only[Bool.and_eq_true,decide_eq_true_eq] at hc
   obtain⟨c1,c2,c3,c4,c5⟩:=hc
   have c3:=nbE c3
   have hk:∀e∈es,e.length=k:=λe he=>nbE (List.all_eq_true.1 c5 e he)
   have hf:=ju hk
   obtain⟨q1,q2,q3⟩:=jz k es.length (es.flatten.take off++r0.cells++es.flatten.drop (off+n)) (by
    rw[List.length_append,List.length_append,List.length_take,List.length_drop,c3,←hf];omega)
   exact lg hx (dr ho) hy c1 rfl c2 hn c3 c4 q1 q2 q3
  ·cases h
 ·cases h
theorem sj{T:Nat}{x y:Operand}{r:AV}(h:mkX P env st T x y=some (r,st')):Does P env st ⟨dst, .makeSlice T x y,ty,pos,after,guard⟩ r st':=by
 unfold mkX at h
 split at h
 ·rename_i hx hy hT
  split at h
  ·rename_i hz
   obtain⟨hc,h⟩:=bV h
   simp only[ak,Prod.mk.injEq] at h
   obtain⟨rfl,rfl⟩:=h
   simp only[Bool.and_eq_true,decide_eq_true_eq] at hc
   obtain⟨rfl,c1,c2,c3⟩:=hc
   obtain⟨z,h1,h2⟩:=bh hx
   rw[cq h2] at h1
   obtain⟨z',g1,g2⟩:=bh hy
   rw[cq g2] at g1
   exact(gK hT hz (nbE c1) (nbT c2) h1 g1 c3).b.does
  ·cases h
 ·cases h
theorem rg{T len:Nat}{parts:Array (Nat×Operand)}{r:AV}(h:sT P env st T len parts=some (r,st')):Does P env st ⟨dst, .buildSlice T len parts,ty,pos,after,guard⟩ r st':=by
 unfold sT at h
 cases h0:Nat.beq len 0&&parts.isEmpty with
 |true=>
  rw[h0,cdT] at h
  rw[Bool.and_eq_true] at h0
  have e0:=nbE h0.1
  have e1:parts= #[]:=by simpa using h0.2
  subst e0
  subst e1
  split at h
  ·rename_i hT
   simp only[ak,Prod.mk.injEq] at h
   obtain⟨rfl,rfl⟩:=h
   exact(kW hT).b.does
  ·cases h
 |false=>
 rw[h0,cdF] at h
 split at h
 ·rename_i hT hx
  split at h
  ·rename_i hz
   obtain⟨hc,h⟩:=bV h
   simp only[ak,Prod.mk.injEq] at h
   obtain⟨rfl,rfl⟩:=h
   simp only[Bool.and_eq_true,decide_eq_true_eq] at hc
   obtain⟨c1,c2,c3,c4,c5,c6⟩:=hc
   exact(iY hT hz (nbE c1) c2 (nbT c3) c4 hx c5 c6).b.does
  ·cases h
 ·cases h
theorem ny{T:Nat}{s x:Operand}{c:Call}{r:AV}(hcc:c=⟨.builtin .append, #[s,x], #[T,T]⟩)(h2:ri P env st s x T=some (r,st')):Does P env st ⟨dst, .call c,ty,pos,after,guard⟩ r st':=by
 unfold ri at h2
 split at h2
 ·rename_i hs hx hT
  split at h2
  ·rename_i ho hsrc hz
   obtain⟨hc',h3⟩:=bV h2
   simp only[ak,Prod.mk.injEq] at h3
   obtain⟨rfl,rfl⟩:=h3
   simp only[Bool.and_eq_true,decide_eq_true_eq] at hc'
   obtain⟨c1,c2,c3,c4,c5,c6,c7,c8⟩:=hc'
   have c1:=nbE c1
   have c2:=nbE c2
   subst c1 c2
   exact oc (_T':=0) hT hz (nbE c3) (nbT c4) hcc hs (dr ho) hx (qb hsrc) c5 (λf hf=>nbE (List.all_eq_true.1 c6 f hf)) c7 c8
  ·cases h2
 ·cases h2
theorem j7{op:Op}{r:AV}(h:exD P env st op=some (r,st')):Does P env st ⟨dst,op,ty,pos,after,guard⟩ r st':=by
 unfold exD at h
 split at h
 ·split at h
  ·rename_i hx
   obtain⟨hc,h⟩:=bV h
   simp only[ak,Prod.mk.injEq] at h
   obtain⟨rfl,rfl⟩:=h
   exact(sU hx hc).does
  ·cases h
 ·split at h
  ·rename_i hz
   simp only[ak,Prod.mk.injEq] at h
   obtain⟨rfl,rfl⟩:=h
   exact(nu hz).does
  ·cases h
 ·exact nQ h
 ·exact sj h
 ·exact rg h
 ·rename_i c
  split at h
  ·rename_i s x T T' hc ha hg
   have hTT:=(bV h).1
   have h2:=(bV h).2
   clear h
   obtain rfl:=nbE hTT
   have hcc:c=⟨.builtin .append, #[s,x], #[T,T]⟩:=by
    obtain⟨c1,c2,c3⟩:=c
    subst hc
    have e2:c2= #[s,x]:=by rw[←ha]
    have e3:c3= #[T,T]:=by rw[←hg]
    rw[e2,e3]
   split at h2
   ·rename_i r' hr'
    obtain rfl:=inS h2
    exact ny hcc hr'
   ·unfold appN at h2
    split at h2
    ·split at h2
     ·rename_i e k _ hg he
      exact Does.nil_os _ e k hg (ny hcc h2)
     ·cases h2
    ·cases h2
  ·cases h
 ·cases h
end
abbrev bl:=FuncId→List AV→List AO→Option (AV×List AO)
def bK(P:Program)(call:bl):Prop:=∀f asz st r st',call f asz st=some (r,st')→Ctr P f asz st (λr' s'=>r'=r∧s'=st')
def fM(nt:Nat)(o:Oper)(env:Env)(r:AV)(st:List AO):Option (Env×List AO):=match o.dst with
 |some d=>bif Nat.ble (d+1) nt then some ((d,r)::env,st) else none
 |none=>some (env,st)
def nilX(P:Program)(env:Env)(st:List AO):Op→Option (Env×List AO)
 | .call c=>(match c.args.toList,c.argTypes.toList with
  |[.tmp s,_],[T,_]=>(match env.get s,cy P T with
   |some (.d (.v (.slice none 0 0))),some (e,k,_)=>some ((s, .os st.length 0)::env,st++ [.os e k 0 []])
   |_,_=>none)
  |_,_=>none)
 |_=>none
def np(call:bl)(env:Env)(st:List AO):Op→Option (AV×List AO)
 | .call c=>(match c.callee with
  | .value x=>(match opv env x,bo env c.args.toList with
   |some (.fn (.func f) first caps),some asz=>call f (first++asz++caps) st
   |_,_=>none)
  |_=>none)
 |_=>none
abbrev kh:=Nat→List AV→List AO→Option (AV×List AO)
def lr(P:Program)(yld:kh):Prop:=∀id asz st r st',yld id asz st=some (r,st')→∀(e:En)(ops:Array Oper)(rest:List Oper)(o:Oper)(env:Env)(R:Env→List AO→Prop)(c:Call)(x:Operand)(d:Nat),
 o.op= .call c→c.callee= .value x→opv env x=some (.yl id)→bo env c.args.toList=some asz→Wt ops env o true→o.dst=some d→Nat.ble (d+1) e.n=true→WL P e ops rest ((d,r)::env) st' R→WL P e ops (o::rest) env st R
def ylX(yld:kh)(env:Env)(st:List AO):Op→Option (AV×List AO)
 | .call c=>(match c.callee with
  | .value x=>(match opv env x,bo env c.args.toList with
   |some (.yl id),some asz=>yld id asz st
   |_,_=>none)
  |_=>none)
 |_=>none
def exE(P:Program)(t:Ty)(nt:Nat)(call:bl)(yld:kh)(ops:Array Oper)(env:Env)(st:List AO)(o:Oper):Option (Env×List AO):=
 match fC ops env o.guard with
 |none=>none
 |some false=>fM nt o env (.d (.v undef)) st
 |some true=>match exY P t env st o.op with
  |some r=>(match o.dst with
   |some _=>fM nt o env r st
   |none=>none)
  |none=>(match exD P env st o.op with
   |some (r,st')=>fM nt o env r st'
   |none=>(match np call env st o.op with
    |some (r,st')=>(match o.dst with
     |some _=>fM nt o env r st'
     |none=>none)
    |none=>(match nilX P env st o.op with
     |some (env1,st1)=>(match fC ops env1 o.guard,exD P env1 st1 o.op with
      |some true,some (r,st')=>fM nt o env1 r st'
      |_,_=>none)
     |none=>(match ylX yld env st o.op with
      |some (r,st')=>(match o.dst with
       |some _=>fM nt o env r st'
       |none=>none)
      |none=>none))))
abbrev d4:=Oper→Env→List AO→Option (Env×List AO)
def gB(hook:d4):Prop:=∀(e:En) o env st env' st',hook o env st=some (env',st')→Gh e env st env' st'
def exL(P:Program)(t:Ty)(nt:Nat)(call:bl)(yld:kh)(hook:d4)(ops:Array Oper):List Oper→Env→List AO→Option (Env×List AO)
 |[],env,st=>some (env,st)
 |o::l,env,st=>match hook o env st with
  |some (env1,st1)=>(match exE P t nt call yld ops env1 st1 o with
   |some (env',st')=>exL P t nt call yld hook ops l env' st'
   |none=>none)
  |none=>(match exE P t nt call yld ops env st o with
   |some (env',st')=>exL P t nt call yld hook ops l env' st'
   |none=>none)
section
variable{P:Program}{t:Ty}{nt:Nat}{call:bl}{yld:kh}{e:En}{ops:Array Oper}{l:List Oper}{R:Env→List AO→Prop}{env env':Env}{st st':List AO}
theorem rJ{o:Oper}{r:AV}(hw:Wt ops env o true)(hy:Does P env st o r st')(hn:e.n=nt)(hp:fM nt o env r st'=some (env',st'))(k:WL P e ops l env' st' R):WL P e ops (o::l) env st R:=by
 unfold fM at hp
 split at hp
 ·rename_i d hd
  obtain⟨hb,hp⟩:=bV hp
  simp only[ak,Prod.mk.injEq] at hp
  obtain⟨rfl,_⟩:=hp
  exact WL.s hy hw hd (by rw[hn];exact hb) k
 ·rename_i hd
  simp only[ak,Prod.mk.injEq] at hp
  obtain⟨rfl,_⟩:=hp
  exact WL.s0 hy hw hd k
theorem mY{o:Oper}{r:AV}{s:List AO}(h:fM nt o env r s=some (env',st')):st'=s:=by
 unfold fM at h
 split at h
 ·obtain⟨_,h⟩:=bV h
  simp only[ak,Prod.mk.injEq] at h
  exact h.2.symm
 ·simp only[ak,Prod.mk.injEq] at h
  exact h.2.symm
theorem pE(ht:t.ok P=true)(hc:bK P call)(hyl:lr P yld)(hn:e.n=nt){o:Oper}(h:exE P t nt call yld ops env st o=some (env',st'))(k:WL P e ops l env' st' R):WL P e ops (o::l) env st R:=by
 unfold exE at h
 split at h
 ·cases h
 ·rename_i hw
  unfold fM at h
  split at h
  ·rename_i d hd
   obtain⟨hb,h⟩:=bV h
   simp only[ak,Prod.mk.injEq] at h
   obtain⟨rfl,rfl⟩:=h
   exact WL.skip (br hw) hd (by rw[hn];exact hb) k
  ·rename_i hd
   simp only[ak,Prod.mk.injEq] at h
   obtain⟨rfl,rfl⟩:=h
   exact WL.skip0 (br hw) hd k
 ·rename_i hw
  have hw:=cz hw
  split at h
  ·rename_i r hr
   split at h
   ·rename_i d hd
    unfold fM at h
    rw[hd] at h
    obtain⟨hb,h⟩:=bV h
    simp only[ak,Prod.mk.injEq] at h
    obtain⟨rfl,rfl⟩:=h
    obtain⟨od,oop,oty,opos,oaf,og⟩:=o
    exact WL.q (pA ht hr) hw hd (by rw[hn];exact hb) k
   ·cases h
  ·split at h
   ·rename_i r s hr
    obtain rfl:=mY h
    obtain⟨od,oop,oty,opos,oaf,og⟩:=o
    exact rJ hw (j7 hr) hn h k
   ·split at h
    ·rename_i r s hr
     split at h
     ·rename_i d hd
      unfold fM at h
      rw[hd] at h
      obtain⟨hb,h⟩:=bV h
      simp only[ak,Prod.mk.injEq] at h
      obtain⟨rfl,rfl⟩:=h
      unfold np at hr
      split at hr
      ·rename_i c hop
       split at hr
       ·rename_i x hx
        split at hr
        ·rename_i f first caps asz hf has
         refine WL.call (Q:=λr' s'=>r'=r∧s'=s) hop hx hf has (hc _ _ _ _ _ hr) (Les.refl _) hw hd (by rw[hn];exact hb) λr' s' hq=>?_
         obtain⟨rfl,rfl⟩:=hq
         exact k
        ·cases hr
       ·cases hr
      ·cases hr
     ·cases h
    ·split at h
     ·rename_i env1 st1 h1
      split at h
      ·rename_i r s hw1 hr
       obtain rfl:=mY h
       unfold nilX at h1
       split at h1
       ·split at h1
        ·split at h1
         ·rename_i T1 k1 _ hg he
          simp only[ak,Prod.mk.injEq] at h1
          obtain⟨rfl,rfl⟩:=h1
          refine WL.nil_os _ T1 k1 hg ?_
          obtain⟨od,oop,oty,opos,oaf,og⟩:=o
          exact rJ (cz hw1) (j7 hr) hn h k
         ·cases h1
        ·cases h1
       ·cases h1
      ·cases h
     ·split at h
      ·rename_i r s hr
       split at h
       ·rename_i d hd
        unfold fM at h
        rw[hd] at h
        obtain⟨hb,h⟩:=bV h
        simp only[ak,Prod.mk.injEq] at h
        obtain⟨rfl,rfl⟩:=h
        unfold ylX at hr
        split at hr
        ·rename_i c hop
         split at hr
         ·rename_i x hx
          split at hr
          ·rename_i id asz hf has
           exact hyl _ _ _ _ _ hr _ _ _ _ _ _ _ _ _ hop hx hf has hw hd (by rw[hn];exact hb) k
          ·cases hr
         ·cases hr
        ·cases hr
       ·cases h
      ·cases h
theorem mq(ht:t.ok P=true)(hc:bK P call)(hyl:lr P yld){hook:d4}(hh:gB hook)(hn:e.n=nt):∀{l:List Oper}{env:Env}{st:List AO},exL P t nt call yld hook ops l env st=some (env',st')→R env' st'→WL P e ops l env st R
 |[],env,st,h,k=>by
  simp only[exL,ak,Prod.mk.injEq] at h
  obtain⟨rfl,rfl⟩:=h
  exact WL.nil k
 |o::l,env,st,h,k=>by
  unfold exL at h
  split at h
  ·rename_i hk
   split at h
   ·rename_i hs
    exact(hh e _ _ _ _ _ hk).wl (pE ht hc hyl hn hs (mq ht hc hyl hh hn h k))
   ·cases h
  ·split at h
   ·rename_i hs
    exact pE ht hc hyl hn hs (mq ht hc hyl hh hn h k)
   ·cases h
end
def eqV:Value→Value→Bool
 | .int k a, .int k' b=>decide (k=k')&&decide (a=b)
 | .bool a, .bool b=>a==b
 | .slice none 0 0, .slice none 0 0=>true
 | .pointer none, .pointer none=>true
 |_,_=>false
theorem sL:∀{a b:Value},eqV a b=true→a=b:=by
 intro a b h
 unfold eqV at h
 split at h
 ·simp only[Bool.and_eq_true,decide_eq_true_eq] at h
  rw[h.1,h.2]
 ·simp only[beq_iff_eq] at h
  rw[h]
 ·rfl
 ·rfl
 ·cases h
mutual
def eqD:D→D→Bool
 | .v a, .v b=>eqV a b
 | .sl a, .sl b=>eqDss a b
 | .pc a, .pc b=>eqDs a b
 | .ag a, .ag b=>eqDs a b
 | .tu a, .tu b=>eqDs a b
 |_,_=>false
def eqDs:List D→List D→Bool
 |[],[]=>true
 |x::a,y::b=>eqD x y&&eqDs a b
 |_,_=>false
def eqDss:List (List D)→List (List D)→Bool
 |[],[]=>true
 |x::a,y::b=>eqDs x y&&eqDss a b
 |_,_=>false
end
mutual
theorem pF:∀{a b:D},eqD a b=true→a=b
 | .v a,b,h=>by
  cases b<;>first|(simp only[eqD] at h;rw[sL h])|simp[eqD] at h
 | .sl a,b,h=>by
  cases b<;>first|(simp only[eqD] at h;rw[eqDss_ok h])|simp[eqD] at h
 | .pc a,b,h=>by
  cases b<;>first|(simp only[eqD] at h;rw[eqDs_ok h])|simp[eqD] at h
 | .ag a,b,h=>by
  cases b<;>first|(simp only[eqD] at h;rw[eqDs_ok h])|simp[eqD] at h
 | .tu a,b,h=>by
  cases b<;>first|(simp only[eqD] at h;rw[eqDs_ok h])|simp[eqD] at h
 | .ifc t a,b,h=>by simp[eqD] at h
 | .fnc f a c,b,h=>by simp[eqD] at h
theorem eqDs_ok:∀{a b:List D},eqDs a b=true→a=b
 |[],b,h=>by cases b with
  |nil=>rfl
  |cons y b=>simp[eqDs] at h
 |x::a,b,h=>by cases b with
  |nil=>simp[eqDs] at h
  |cons y b=>
   simp only[eqDs,Bool.and_eq_true] at h
   rw[pF h.1,eqDs_ok h.2]
theorem eqDss_ok:∀{a b:List (List D)},eqDss a b=true→a=b
 |[],b,h=>by cases b with
  |nil=>rfl
  |cons y b=>simp[eqDss] at h
 |x::a,b,h=>by cases b with
  |nil=>simp[eqDss] at h
  |cons y b=>
   simp only[eqDss,Bool.and_eq_true] at h
   rw[eqDs_ok h.1,eqDss_ok h.2]
end
mutual
def qZ:AV→AV→Bool
 | .u, .u=>true
 | .d a, .d b=>eqD a b
 | .pt i o, .pt j p=>Nat.beq i j&&Nat.beq o p
 | .os i o, .os j p=>Nat.beq i j&&Nat.beq o p
 | .pe i v o, .pe j u p=>Nat.beq i j&&(Nat.beq v u&&Nat.beq o p)
 | .ag a, .ag b=>eqAVs a b
 | .tu a, .tu b=>eqAVs a b
 | .fn (.func f) a c, .fn (.func g) b d=>Nat.beq f g&&(eqAVs a b&&eqAVs c d)
 |_,_=>false
def eqAVs:List AV→List AV→Bool
 |[],[]=>true
 |x::a,y::b=>qZ x y&&eqAVs a b
 |_,_=>false
end
mutual
theorem nk:∀{a b:AV},qZ a b=true→a=b:=by
 intro a b h
 unfold qZ at h
 split at h
 ·rfl
 ·rw[pF h]
 ·simp only[Bool.and_eq_true] at h
  rw[nbE h.1,nbE h.2]
 ·simp only[Bool.and_eq_true] at h
  rw[nbE h.1,nbE h.2]
 ·simp only[Bool.and_eq_true] at h
  rw[nbE h.1,nbE h.2.1,nbE h.2.2]
 ·rw[eqAVs_ok h]
 ·rw[eqAVs_ok h]
 ·simp only[Bool.and_eq_true] at h
  rw[nbE h.1,eqAVs_ok h.2.1,eqAVs_ok h.2.2]
 ·cases h
theorem eqAVs_ok:∀{a b:List AV},eqAVs a b=true→a=b:=by
 intro a b h
 unfold eqAVs at h
 split at h
 ·rfl
 ·simp only[Bool.and_eq_true] at h
  rw[nk h.1,eqAVs_ok h.2]
 ·cases h
end
theorem j0{F:Env}:∀{env:Env}{t:Nat}{x:AV},env.get t=some x→(env++F).get t=some x
 |[],t,x,h=>by cases h
 |(k,v)::env,t,x,h=>by
  show(bif Nat.beq t k then some v else Env.get (env++F) t)=some x
  have h:(bif Nat.beq t k then some v else Env.get env t)=some x:=h
  cases hb:Nat.beq t k with
  |true=>rw[hb] at h;exact h
  |false=>rw[hb] at h;exact j0 h
theorem EnvOk.app{m:List Cz}{φ:Nat→Nat}{w:World}{env F:Env}{a:Act}(h:EnvOk m φ w (env++F) a):EnvOk m φ w env a:=⟨λt x hx=>h.get t x (j0 hx),h.gl⟩
theorem m4{env F:Env}{x:Operand}{r:AV}(h:opv env x=some r):opv (env++F) x=some r:=by
 cases x with
 |tmp t=>exact j0 h
 |_=>exact h
section
variable{P:Program}{env F:Env}{st st':List AO}{o:Oper}{r:AV}
theorem Yields.app(h:Yields P env st o r):Yields P (env++F) st o r:=λm φ a w hs he=>h m φ a w hs he.app
theorem Does.app(h:Does P env st o r st'):Does P (env++F) st o r st':=λm φ a w hs he=>h m φ a w hs he.app
end
theorem kU{env F:Env}:∀{l:List Operand}{xs:List AV},bo env l=some xs→bo (env++F) l=some xs
 |[],xs,h=>h
 |x::l,xs,h=>by
  unfold bo at h⊢
  split at h
  ·rename_i h1 h2
   rw[m4 h1,kU h2]
   exact h
  ·cases h
theorem Wt.app{ops:Array Oper}{env F:Env}{o:Oper}{b:Bool}(h:Wt ops env o b):Wt ops (env++F) o b:=λm φ w a he=>h m φ w a he.app
def jP(o:Oper)(r:AV)(env:Env):Env:=match o.dst with
 |some d=>(d,r)::env
 |none=>env
def exP(P:Program)(t:Ty)(ops:Array Oper)(env:Env)(st:List AO)(o:Oper):Option AV:=
 match fC ops env o.guard with
 |none=>none
 |some false=>some (.d (.v undef))
 |some true=>match exY P t env st o.op with
  |some r=>(match o.dst with
   |some _=>some r
   |none=>none)
  |none=>none
def ms(P:Program)(t:Ty)(call:bl)(ops:Array Oper)(env:Env)(st:List AO)(o:Oper):Option (AV×List AO):=
 match exP P t ops env st o with
 |some r=>some (r,st)
 |none=>match fC ops env o.guard with
  |some true=>(match exD P env st o.op with
   |some rs=>some rs
   |none=>(match np call env st o.op,o.dst with
    |some rs,some _=>some rs
    |_,_=>none))
  |_=>none
section
variable{P:Program}{t:Ty}{call:bl}{e:En}{ops:Array Oper}{l:List Oper}{R:Env→List AO→Prop}{env F:Env}{st st':List AO}{o:Oper}{r:AV}
theorem pB(ht:t.ok P=true)(hd:∀d,o.dst=some d→Nat.ble (d+1) e.n=true)(h:exP P t ops env st o=some r)(k:WL P e ops l (jP o r (env++F)) st R):WL P e ops (o::l) (env++F) st R:=by
 unfold exP at h
 split at h
 ·cases h
 ·rename_i hw
  obtain rfl:=inS h
  unfold jP at k
  split at k
  ·rename_i d hdd;exact WL.skip (br hw).app hdd (hd d hdd) k
  ·rename_i hdd;exact WL.skip0 (br hw).app hdd k
 ·rename_i hw
  split at h
  ·rename_i r' hr
   split at h
   ·rename_i d hdd
    obtain rfl:=inS h
    unfold jP at k
    rw[hdd] at k
    obtain⟨od,oop,oty,opos,oaf,og⟩:=o
    exact WL.q (pA ht hr).app (cz hw).app hdd (hd d hdd) k
   ·cases h
  ·cases h
theorem qX(ht:t.ok P=true)(hc:bK P call)(hd:∀d,o.dst=some d→Nat.ble (d+1) e.n=true)(h:ms P t call ops env st o=some (r,st'))(k:WL P e ops l (jP o r (env++F)) st' R):WL P e ops (o::l) (env++F) st R:=by
 unfold ms at h
 split at h
 ·rename_i hp
  simp only[ak,Prod.mk.injEq] at h
  obtain⟨rfl,rfl⟩:=h
  exact pB ht hd hp k
 ·split at h
  ·rename_i hw
   have hw:=(cz hw).app (F:=F)
   split at h
   ·rename_i rs hr
    obtain rfl:=inS h
    unfold jP at k
    split at k
    ·rename_i d hdd
     obtain⟨od,oop,oty,opos,oaf,og⟩:=o
     exact WL.s (j7 hr).app hw hdd (hd d hdd) k
    ·rename_i hdd
     obtain⟨od,oop,oty,opos,oaf,og⟩:=o
     exact WL.s0 (j7 hr).app hw hdd k
   ·split at h
    ·rename_i rs d hr hdd
     obtain rfl:=inS h
     unfold jP at k
     rw[hdd] at k
     unfold np at hr
     split at hr
     ·rename_i c hop
      split at hr
      ·rename_i x hx
       split at hr
       ·rename_i f first caps asz hf has
        refine WL.call (Q:=λr' s'=>r'=r∧s'=st') hop hx (m4 hf) (kU has) (hc _ _ _ _ _ hr) (Les.refl _) hw hdd (hd d hdd) λr' s' hq=>?_
        obtain⟨rfl,rfl⟩:=hq
        exact k
       ·cases hr
      ·cases hr
     ·cases hr
    ·cases h
  ·cases h
end
def opT:List Operand→List Nat
 |[]=> []
 | .tmp t::l=>t::opT l
 |_::l=>opT l
def opsOf:Op→List Operand
 | .move x=> [x]
 | .assign x=> [x]
 | .pick c x y=> [c,x,y]
 | .load _ x=> [x]
 | .fieldAddr _ x _=> [x]
 | .field _ x _=> [x]
 | .nilCheck x=> [x]
 | .extract x _=> [x]
 | .unOp _ _ x=> [x]
 | .binOp _ _ x y _=> [x,y]
 | .convert _ _ x=> [x]
 | .makeFunc _ a b=>a.toList++b.toList
 | .indexAddr _ x y=> [x,y]
 | .box _ x=> [x]
 | .store _ x y=> [x,y]
 | .makeSlice _ x y=> [x,y]
 | .buildSlice _ _ ps=>ps.toList.map (·.2)
 | .build _ ps=>ps.toList.map (·.2)
 | .slice _ x lo hi _=>x::(lo.toList++hi.toList)
 | .call c=>(match c.callee with
  | .value x=>x::c.args.toList
  |_=>c.args.toList)
 |_=> []
def ne(l:List Oper)(x:Nat):Nat→Nat→Option Nat→Option Nat
 |0,_,acc=>acc
 |n+1,j,acc=>ne l x n (j+1) (match l[j]? with
  |some o=>bif o.dst==some x then some j else acc
  |none=>acc)
def oT(l:List Oper)(k:Nat):List Nat→List Nat×List Nat
 |[]=>([],[])
 |x::xs=>match ne l x k 0 none with
  |some j=>(j::(oT l k xs).1,(oT l k xs).2)
  |none=>((oT l k xs).1,x::(oT l k xs).2)
def rV(l:List Oper)(o:Oper):List Nat:=(match o.guard with
 |some (j,_)=>(match(l[j]?).bind (·.dst) with
  |some d=> [d]
  |none=> [])
 |none=> [])++opT (opsOf o.op)
def csX(tc:List (List Nat))(es:List Nat)(k:Nat):List Nat:=(List.range (es.length+1)).filter λc=>
 !(match es[c]? with
  |some y=>(tc.getD k []).contains y
  |none=>false)&& !((es.take c).any λy=>Nat.beq y k||(tc.getD y []).contains k)
def kT(l:List Oper)(tc:List (List Nat))(es:List Nat):Nat→List Oper→List (List Nat×List Nat×List Nat)
 |_,[]=> []
 |k,o::ol=>let p:=oT l k (rV l o);(p.1,p.2,csX tc es k)::kT l tc es (k+1) ol
def seqX(P:Program)(t:Ty)(call:bl)(ops:Array Oper):Nat→List Oper→Env→List AO→Option (List AV×List Nat)
 |_,[],_,_=>some ([],[])
 |k,o::ol,env,st=>match ms P t call ops env st o with
  |some (r,st')=>(match seqX P t call ops (k+1) ol (jP o r env) st' with
   |some (rs,es)=>some ((match o.dst with
    |some _=>r
    |none=> .u)::rs,bif (exP P t ops env st o).isSome then es else k::es)
   |none=>none)
  |none=>none
def eo(P:Program)(t:Ty)(call:bl)(l:List Oper)(rs:List AV)(base:Env)(plan:List (List Nat×List Nat×List Nat)):List Nat→List AO→Option (List (List AO))
 |[],st=>some [st]
 |k::es,st=>match l[k]?,plan[k]? with
  |some o,some p=>(match ms P t call l.toArray (dT l rs base p.1 p.2.1) st o with
   |some (_,st')=>(match eo P t call l rs base plan es st' with
    |some L=>some (st::L)
    |none=>none)
   |none=>none)
  |_,_=>none
theorem lm{P:Program}{t:Ty}{call:bl}{l:List Oper}{rs:List AV}{base:Env}{plan:List (List Nat×List Nat×List Nat)}:∀{es:List Nat}{st:List AO}{L:List (List AO)},eo P t call l rs base plan es st=some L→L[0]? =some st
 |[],st,L,h=>by
  obtain rfl:=inS h
  rfl
 |k::es,st,L,h=>by
  unfold eo at h
  split at h
  ·split at h
   ·split at h
    ·obtain rfl:=inS h
     rfl
    ·cases h
   ·cases h
  ·cases h
theorem iH{P:Program}{t:Ty}{call:bl}{l:List Oper}{rs:List AV}{base:Env}{plan:List (List Nat×List Nat×List Nat)}:∀{es:List Nat}{st:List AO}{L:List (List AO)},eo P t call l rs base plan es st=some L→
  ∀{c k:Nat}{o:Oper}{p:List Nat×List Nat×List Nat},es[c]? =some k→l[k]? =some o→plan[k]? =some p→∃r,ms P t call l.toArray (dT l rs base p.1 p.2.1) (L.getD c []) o=some (r,L.getD (c+1) [])
 |[],st,L,h,c,k,o,p,h1,_,_=>by simp at h1
 |j::es,st,L,h,c,k,o,p,h1,h2,h3=>by
  unfold eo at h
  split at h
  ·rename_i o' p' ho hp
   split at h
   ·rename_i r' st' hr
    split at h
    ·rename_i L' hL
     obtain rfl:=inS h
     cases c with
     |zero=>
      simp only[List.getElem?_cons_zero,ak] at h1
      subst h1
      rw[ho] at h2;rw[hp] at h3
      obtain rfl:=inS h2
      obtain rfl:=inS h3
      have h0:=lm hL
      refine⟨r',?_⟩
      show ms P t call l.toArray (dT l rs base p'.1 p'.2.1) st o'=some (r',L'.getD 0 [])
      rw[hr]
      have:L'.getD 0 []=st':=by rw[List.getD_eq_getElem?_getD,h0];rfl
      rw[this]
     |succ c=>
      have h1:es[c]? =some k:=by simpa using h1
      exact iH hL h1 h2 h3
    ·cases h
   ·cases h
  ·cases h
def okR(o:Oper)(rs:List AV)(k:Nat)(r:AV):Bool:=match o.dst with
 |some _=>(match rs[k]? with
  |some r'=>qZ r r'
  |none=>false)
 |none=>true
def rb(P:Program)(t:Ty)(nt:Nat)(call:bl)(l:List Oper)(rs:List AV)(base:Env)(es:List Nat)(L:List (List AO))(k:Nat)(o:Oper)(p:List Nat×List Nat×List Nat)(c:Nat):Bool:=
 (match o.dst with
  |some d=>Nat.ble (d+1) nt
  |none=>true)&&
 bif es.contains k then(es[c]? ==some k)&&(match ms P t call l.toArray (dT l rs base p.1 p.2.1) (L.getD c []) o with
  |some (r,_)=>okR o rs k r
  |none=>false)
 else(match exP P t l.toArray (dT l rs base p.1 p.2.1) (L.getD c []) o with
  |some r=>okR o rs k r
  |none=>false)
def qg(P:Program)(t:Ty)(nt:Nat)(call:bl)(l:List Oper)(rs:List AV)(base:Env)(es:List Nat)(L:List (List AO)):Nat→List Oper→List (List Nat×List Nat×List Nat)→Bool
 |k,o::ol,p::ps=>(p.2.2.all λc=>rb P t nt call l rs base es L k o p c)&&qg P t nt call l rs base es L (k+1) ol ps
 |_,_,_=>true
section
variable{P:Program}{t:Ty}{nt:Nat}{call:bl}{e:En}{l:List Oper}{rs:List AV}{base:Env}{es:List Nat}{L:List (List AO)}
theorem nl{ops:Array Oper}{env:Env}{st' stc:List AO}{o:Oper}{k:Nat}{r:AV}(hr:okR o rs k r=true)(hst:st'=stc):
  WL P e ops [] (jP o r env) st' (λenv' st''=>st''=stc∧∃pre,env'=pre++env∧(∀t x,pre.get t=some x→o.dst=some t)∧∀d' r',o.dst=some d'→rs[k]? =some r'→pre.get d'=some r'):=by
 unfold okR at hr
 unfold jP
 split at hr
 ·rename_i d hd
  split at hr
  ·rename_i r' hr'
   obtain rfl:=nk hr
   rw[hd]
   have:=iK (P:=P) (e:=e) (ops:=ops) (env:=env) hd hr' hst
   rw[hd] at this
   exact this
  ·cases hr
 ·rename_i hd
  rw[hd]
  have:=eu (P:=P) (e:=e) (rs:=rs) (ops:=ops) (env:=env) (k:=k) hd hst
  rw[hd] at this
  exact this
theorem ra(ht:t.ok P=true)(hc:bK P call)(hn:e.n=nt){plan:List (List Nat×List Nat×List Nat)}{st:List AO}(hL:eo P t call l rs base plan es st=some L){k c:Nat}{o:Oper}{p:List Nat×List Nat×List Nat}(ho:l[k]? =some o)(hp:plan[k]? =some p)
  (h:rb P t nt call l rs base es L k o p c=true):Ob P e l rs base (λc=>L.getD c []) k o p.1 p.2.1 c (bif es.contains k then c+1 else c):=λF=>by
 unfold rb at h
 rw[Bool.and_eq_true] at h
 obtain⟨h0,h⟩:=h
 have hd:∀d,o.dst=some d→Nat.ble (d+1) e.n=true:=λd hd=>by rw[hd] at h0;rw[hn];exact h0
 cases hk:es.contains k with
 |true=>
  rw[hk,cdT,Bool.and_eq_true] at h
  obtain⟨h1,h2⟩:=h
  have h1:es[c]? =some k:=by simpa using h1
  obtain⟨r,hr⟩:=iH hL h1 ho hp
  rw[hr] at h2
  exact qX ht hc hd hr (nl h2 rfl)
 |false=>
  rw[hk,cdF] at h
  split at h
  ·rename_i r hr
   exact pB ht hd hr (nl h rfl)
  ·cases h
theorem m7(ht:t.ok P=true)(hc:bK P call)(hn:e.n=nt){plan:List (List Nat×List Nat×List Nat)}{st:List AO}(hL:eo P t call l rs base plan es st=some L):∀{ol:List Oper}{ps:List (List Nat×List Nat×List Nat)}{k:Nat},ol=l.drop k→ps=plan.drop k→qg P t nt call l rs base es L k ol ps=true→
  Obs P e l rs base (λc=>L.getD c []) es k ol ps
 |[],_,_,_,_,_=>trivial
 |_::_,[],_,_,_,_=>trivial
 |o::ol,p::ps,k,h1,h2,h=>by
  unfold qg at h
  rw[Bool.and_eq_true] at h
  have ho:l[k]? =some o:=by
   have:(l.drop k)[0]? =some o:=by rw[←h1];rfl
   simpa using this
  have hp:plan[k]? =some p:=by
   have:(plan.drop k)[0]? =some p:=by rw[←h2];rfl
   simpa using this
  have h1':ol=l.drop (k+1):=by
   have:=congrArg List.tail h1
   simpa using this
  have h2':ps=plan.drop (k+1):=by
   have:=congrArg List.tail h2
   simpa using this
  refine⟨?_,m7 ht hc hn hL h1' h2' h.2⟩
  have key:∀cs:List Nat,(cs.all λc=>rb P t nt call l rs base es L k o p c)=true→ObC P e l rs base (λc=>L.getD c []) k o p.1 p.2.1 (es.contains k) cs:=by
   intro cs
   induction cs with
   |nil=>intro _;exact trivial
   |cons c cs ih=>
    intro h
    rw[List.all_cons,Bool.and_eq_true] at h
    exact⟨ra ht hc hn hL ho hp h.1,ih h.2⟩
  exact key _ h.1
end
def exA(P:Program)(t:Ty)(nt:Nat)(call:bl)(l:List Oper)(base:Env)(st:List AO):Option (Env×List AO):=
 match seqX P t call l.toArray 0 l base st with
 |some (rs,es)=>(match eo P t call l rs base (kT l (tcF l) es 0 l) es st with
  |some L=>bif P.follows .mixedOrders&&(gQ l (tcF l) es (kT l (tcF l) es 0 l)&&(Nat.beq rs.length l.length&&(es.all (λy=>Nat.blt y l.length)&&(qg P t nt call l rs base es L 0 l (kT l (tcF l) es 0 l)&&bi l))))
   then some (FL base (λk=>Nat.blt k l.length) (bm l rs 0),L.getD es.length []) else none
  |none=>none)
 |none=>none
theorem sI{P:Program}{t:Ty}{nt:Nat}{call:bl}{e:En}(ht:t.ok P=true)(hc:bK P call)(hn:e.n=nt){l:List Oper}{base env':Env}{st st':List AO}{id:Nat}{κ:Ko}(h:exA P t nt call l base st=some (env',st'))(k:WE P e .normal κ env' st'):WC P e (.region id l.toArray true) κ base st:=by
 unfold exA at h
 split at h
 ·rename_i rs es hs
  split at h
  ·rename_i L hL
   obtain⟨hh,h⟩:=bV h
   simp only[ak,Prod.mk.injEq] at h
   obtain⟨rfl,rfl⟩:=h
   simp only[Bool.and_eq_true] at hh
   obtain⟨c1,c2,c3,c4,c5,c6⟩:=hh
   have h0:=lm hL
   exact eN rs (tcF l) es (λc=>L.getD c []) (kT l (tcF l) es 0 l) c1 c2 c3 c4 (by show L.getD 0 []=st;rw[List.getD_eq_getElem?_getD,h0];rfl) (m7 ht hc hn hL sM sM c5) k c6
  ·cases h
 ·cases h
def ke(env:Env):List Nat→Option (List AV)
 |[]=>some []
 |t::l=>match env.get t,ke env l with
  |some x,some xs=>some (x::xs)
  |_,_=>none
theorem jB{env:Env}:∀{l:List Nat}{xs:List AV},ke env l=some xs→bo env (l.map .tmp)=some xs
 |[],xs,h=>by obtain rfl:=inS h;rfl
 |t::l,xs,h=>by
  unfold ke at h
  split at h
  ·rename_i h1 h2
   obtain rfl:=inS h
   show(match env.get t,bo env (l.map .tmp) with|some y,some ys=>some (y::ys)|_,_=>none)=_
   rw[h1,jB h2]
  ·cases h
def exC(P:Program)(t:Ty)(nt:Nat)(call:bl)(yld:kh)(top:Bool)(hook:d4):Nat→Code→Env→List AO→Option (Exit×Env×List AO)
 |0,_,_,_=>none
 |n+1,c,env,st=>match c with
  | .skip=>some (.normal,env,st)
  | .ret=>some (.ret,env,st)
  | .exit i=>some (.exit i,env,st)
  | .seq x y=>(match exC P t nt call yld top hook n x env st with
   |some (.normal,env',st')=>exC P t nt call yld top hook n y env' st'
   |some (.ret,env',st')=>some (.ret,env',st')
   |some (.exit i,env',st')=>some (.exit i,env',st')
   |_=>none)
  | .block i x=>(match exC P t nt call yld top hook n x env st with
   |some (.normal,env',st')=>some (.normal,env',st')
   |some (.ret,env',st')=>some (.ret,env',st')
   |some (.exit j,env',st')=>bif Nat.beq j i then some (.normal,env',st') else some (.exit j,env',st')
   |_=>none)
  | .cond b x y=>(match(opv env b).bind nq with
   |some true=>exC P t nt call yld top hook n x env st
   |some false=>exC P t nt call yld top hook n y env st
   |none=>none)
  | .region _ a false=>bif bi a.toList then(match exL P t nt call yld hook a a.toList env st with
   |some (env',st')=>some (.normal,env',st')
   |none=>none) else none
  | .region _ a true=>(match exA P t nt call a.toList env st with
   |some (env',st')=>some (.normal,env',st')
   |none=>none)
  | .loop x=>(match exC P t nt call yld top hook n x env st with
   |some (.normal,env',st')=>exC P t nt call yld top hook n (.loop x) env' st'
   |some (.ret,env',st')=>some (.ret,env',st')
   |some (.exit i,env',st')=>some (.exit i,env',st')
   |_=>none)
  | .rangeFunc g ps asg body=>bif top then(match opv env g,ke env (env.map (·.1)) with
   |some (.fn (.func f) first caps),some vs=>(match call f (first++ .yl st.length::caps) (st++ [.lp ⟨nt,env.map (·.1),ps.toList,asg,body⟩ vs .ready none]) with
    |some (_,st')=>(match st'[st.length]? with
     |some (.lp _ _ .ready none)=>some (.normal,env,st'.set st.length .dead)
     |some (.lp _ _ .done (some .ret))=>some (.ret,env,st'.set st.length .dead)
     |some (.lp _ _ .done (some (.exit i)))=>some (.exit i,env,st'.set st.length .dead)
     |_=>none)
    |none=>none)
   |_,_=>none) else none
  |_=>none
section
variable{P:Program}{t:Ty}{nt:Nat}{call:bl}{yld:kh}{top:Bool}{hook:d4}{e:En}
theorem fp(ht:t.ok P=true)(hc:bK P call)(hyl:lr P yld)(htop:top=true→e.rd=none∧e.ds=none)(hh:gB hook)(hn:e.n=nt):∀(n:Nat),
  (∀(c:Code)(env env':Env)(st st':List AO)(x:Exit)(κ:Ko),exC P t nt call yld top hook n c env st=some (x,env',st')→WE P e x κ env' st'→WC P e c κ env st)∧
  (∀(c:Code)(env env':Env)(st st':List AO)(x:Exit)(κ:Ko),exC P t nt call yld top hook n (.loop c) env st=some (x,env',st')→WE P e x κ env' st'→∃m,n=m+1∧WC P e c (.rl m c κ) env st)
 |0=>⟨λ_ _ _ _ _ _ _ h=>(by cases h),λ_ _ _ _ _ _ _ h=>(by cases h)⟩
 |n+1=>by
  obtain⟨iA,iB⟩:=fp ht hc hyl htop hh hn n
  have hB:∀(c:Code)(env env':Env)(st st':List AO)(x:Exit)(κ:Ko),exC P t nt call yld top hook (n+1) (.loop c) env st=some (x,env',st')→WE P e x κ env' st'→∃m,n+1=m+1∧WC P e c (.rl m c κ) env st:=by
   intro c env env' st st' x κ h k
   refine⟨n,rfl,?_⟩
   dsimp only[exC] at h
   split at h
   ·rename_i hx
    obtain⟨m,hm,hw⟩:=iB _ _ _ _ _ _ _ h k
    subst hm
    exact iA _ _ _ _ _ _ _ hx (fA hw)
   ·rename_i hx
    simp only[ak,Prod.mk.injEq] at h
    obtain⟨rfl,rfl,rfl⟩:=h
    exact iA _ _ _ _ _ _ _ hx (bN k)
   ·rename_i hx
    simp only[ak,Prod.mk.injEq] at h
    obtain⟨rfl,rfl,rfl⟩:=h
    exact iA _ _ _ _ _ _ _ hx (hY k)
   ·cases h
  refine⟨?_,hB⟩
  intro c env env' st st' x κ h k
  cases c with
  |loop c=>
   obtain⟨m,_,hw⟩:=hB _ _ _ _ _ _ _ h k
   exact ja m hw
  |skip=>
   dsimp only[exC] at h
   simp only[ak,Prod.mk.injEq] at h
   obtain⟨rfl,rfl,rfl⟩:=h
   exact mK k
  |ret=>
   dsimp only[exC] at h
   simp only[ak,Prod.mk.injEq] at h
   obtain⟨rfl,rfl,rfl⟩:=h
   exact oG k
  |exit i=>
   dsimp only[exC] at h
   simp only[ak,Prod.mk.injEq] at h
   obtain⟨rfl,rfl,rfl⟩:=h
   exact mL k
  |seq a b=>
   dsimp only[exC] at h
   split at h
   ·rename_i hx
    exact jK (iA _ _ _ _ _ _ _ hx (l4 (iA _ _ _ _ _ _ _ h k)))
   ·rename_i hx
    simp only[ak,Prod.mk.injEq] at h
    obtain⟨rfl,rfl,rfl⟩:=h
    exact jK (iA _ _ _ _ _ _ _ hx (hU k))
   ·rename_i hx
    simp only[ak,Prod.mk.injEq] at h
    obtain⟨rfl,rfl,rfl⟩:=h
    exact jK (iA _ _ _ _ _ _ _ hx (gC k))
   ·cases h
  |block i a=>
   dsimp only[exC] at h
   split at h
   ·rename_i hx
    simp only[ak,Prod.mk.injEq] at h
    obtain⟨rfl,rfl,rfl⟩:=h
    exact d7 (iA _ _ _ _ _ _ _ hx (oF k))
   ·rename_i hx
    simp only[ak,Prod.mk.injEq] at h
    obtain⟨rfl,rfl,rfl⟩:=h
    exact d7 (iA _ _ _ _ _ _ _ hx (hZ k))
   ·rename_i j _ _ hx
    cases hb:Nat.beq j i with
    |true=>
     rw[hb] at h
     simp only[cdT,ak,Prod.mk.injEq] at h
     obtain⟨rfl,rfl,rfl⟩:=h
     have:=nbE hb
     subst this
     exact d7 (iA _ _ _ _ _ _ _ hx (ia k))
    |false=>
     rw[hb] at h
     simp only[cdF,ak,Prod.mk.injEq] at h
     obtain⟨rfl,rfl,rfl⟩:=h
     exact d7 (iA _ _ _ _ _ _ _ hx (gE hb k))
   ·cases h
  |cond b x y=>
   dsimp only[exC] at h
   split at h
   ·rename_i hb
    obtain⟨z,h1,h2⟩:=bh hb
    rw[fY h2] at h1
    exact fB h1 (λ_=>iA _ _ _ _ _ _ _ h k) (λh=>by cases h)
   ·rename_i hb
    obtain⟨z,h1,h2⟩:=bh hb
    rw[fY h2] at h1
    exact fB h1 (λh=>by cases h) (λ_=>iA _ _ _ _ _ _ _ h k)
   ·cases h
  |region id a b=>
   cases b with
   |false=>
    dsimp only[exC] at h
    obtain⟨hd,h⟩:=bV h
    split at h
    ·rename_i hx
     simp only[ak,Prod.mk.injEq] at h
     obtain⟨rfl,rfl,rfl⟩:=h
     exact jb (l:=a.toList) (mq ht hc hyl hh hn hx k) hd
    ·cases h
   |true=>
    dsimp only[exC] at h
    split at h
    ·rename_i hx
     simp only[ak,Prod.mk.injEq] at h
     obtain⟨rfl,rfl,rfl⟩:=h
     exact sI (l:=a.toList) ht hc hn hx k
    ·cases h
  |rangeFunc g ps asg body=>
   dsimp only[exC] at h
   obtain⟨htp,h⟩:=bV h
   obtain⟨hrd,hds⟩:=htop htp
   split at h
   ·rename_i f first caps vs hg hvs
    split at h
    ·rename_i r1 st1 hx
     have hctr:=hc _ _ _ _ _ hx
     rw[←hn] at hctr
     refine jc (env.map (·.1)) _ hrd hg (jB hvs) hctr (λr' s' hq=>?_) hds
     obtain⟨rfl,rfl⟩:=hq
     split at h
     ·rename_i hl
      simp only[ak,Prod.mk.injEq] at h
      obtain⟨rfl,rfl,rfl⟩:=h
      exact⟨_,_,_,_,_,SLe.refl _,hl,sM,k⟩
     ·rename_i hl
      simp only[ak,Prod.mk.injEq] at h
      obtain⟨rfl,rfl,rfl⟩:=h
      exact⟨_,_,_,_,_,SLe.refl _,hl,sM,k⟩
     ·rename_i hl
      simp only[ak,Prod.mk.injEq] at h
      obtain⟨rfl,rfl,rfl⟩:=h
      exact⟨_,_,_,_,_,SLe.refl _,hl,sM,k⟩
     ·cases h
    ·cases h
   ·cases h
  |_=>cases h
end
def oZ:kh:=λ_ _ _=>none
theorem fQ{P:Program}:lr P oZ:=λ_ _ _ _ _ h=>by cases h
def rL(P:Program)(t:Ty)(call:bl)(hook:d4)(fuel:Nat):kh:=λid asz st=>match st[id]? with
 |some (.lp s vs .ready _)=>bif Nat.beq asz.length s.ps.length&&(ed s.ps&&((s.ps.all λp=>Nat.blt p s.n)&&Nat.beq s.ts.length vs.length)) then
   (match exC P t s.n call oZ false hook fuel s.asg (List.zip s.ps asz++List.zip s.ts vs) st with
   |some (.normal,env1,st1)=>(match st1[id]? with
    |some (.lp s1 vs1 .ready pd1)=>(match exC P t s.n call oZ false hook fuel s.body env1 (st1.set id (.lp s1 vs1 .busy pd1)) with
     |some (.normal,_,st2)=>(match st2[id]? with
      |some (.lp s2 vs2 .busy _)=>some (.d (.v (.bool true)),st2.set id (.lp s2 vs2 .ready none))
      |_=>none)
     |some (.ret,_,st2)=>(match st2[id]? with
      |some (.lp s2 vs2 .busy _)=>some (.d (.v (.bool false)),st2.set id (.lp s2 vs2 .done (some .ret)))
      |_=>none)
     |some (.exit i,_,st2)=>(match st2[id]? with
      |some (.lp s2 vs2 .busy _)=>some (.d (.v (.bool false)),st2.set id (.lp s2 vs2 .done (some (.exit i))))
      |_=>none)
     |_=>none)
    |_=>none)
   |_=>none) else none
 |_=>none
theorem mF{P:Program}{t:Ty}{call:bl}{hook:d4}{fuel:Nat}(ht:t.ok P=true)(hc:bK P call)(hh:gB hook):lr P (rL P t call hook fuel):=by
 intro id asz st r st' h e ops rest o env R c x d hop hx hf has hw ho hd k
 unfold rL at h
 split at h
 ·rename_i s vs pd hs
  obtain⟨hq,h⟩:=bV h
  simp only[Bool.and_eq_true] at hq
  obtain⟨q1,q2,q3,q4⟩:=hq
  refine jC (λr' s'=>r'=r∧s'=st') hop hx hf has hs q1 q2 q3 q4 (λe' hn' hrd' _=>?_) hw ho hd (λr' s' hq=>by obtain⟨rfl,rfl⟩:=hq;exact k)
  have hT:∀{b:Bool},(b=false)→b=true→e'.rd=none∧e'.ds=none:=λh1 h2=>by rw[h1] at h2;cases h2
  split at h
  ·rename_i env1 st1 hx1
   split at h
   ·rename_i s1 vs1 pd1 hs1
    refine(fp ht hc fQ (hT rfl) hh hn' fuel).1 _ _ _ _ _ _ _ hx1 (e7 hrd' hs1 ?_)
    split at h
    ·rename_i env2 st2 hx2
     split at h
     ·rename_i hs2
      simp only[ak,Prod.mk.injEq] at h
      obtain⟨rfl,rfl⟩:=h
      exact(fp ht hc fQ (hT rfl) hh hn' fuel).1 _ _ _ _ _ _ _ hx2 (dJ hrd' hs2 ⟨rfl,rfl⟩)
     ·cases h
    ·rename_i env2 st2 hx2
     split at h
     ·rename_i hs2
      simp only[ak,Prod.mk.injEq] at h
      obtain⟨rfl,rfl⟩:=h
      exact(fp ht hc fQ (hT rfl) hh hn' fuel).1 _ _ _ _ _ _ _ hx2 (bF hrd' hs2 ⟨rfl,rfl⟩)
     ·cases h
    ·rename_i env2 st2 hx2
     split at h
     ·rename_i hs2
      simp only[ak,Prod.mk.injEq] at h
      obtain⟨rfl,rfl⟩:=h
      exact(fp ht hc fQ (hT rfl) hh hn' fuel).1 _ _ _ _ _ _ _ hx2 (jJ hrd' hs2 ⟨rfl,rfl⟩)
     ·cases h
    ·cases h
   ·cases h
  ·cases h
 ·cases h
def rvX(P:Program)(env:Env)(st:List AO):ResultVar→Option AV
 | .tmp t=>env.get t
 | .cell p T=>match env.get p with
  |some (.pt id off)=>(match st[id]? with
   |some (.row _ cs)=>(match aR P T,a8 P T with
    |some false,_=>cs[off]?
    |some true,some n=>bif Nat.ble (off+n) cs.length then some (.ag ((cs.drop off).take n)) else none
    |_,_=>none)
   |_=>none)
  |_=>none
def qd(P:Program)(env:Env)(st:List AO):List ResultVar→Option AV
 |[]=>some (.tu [])
 |[v]=>rvX P env st v
 |[v,u]=>match rvX P env st v,rvX P env st u with
  |some r,some s=>some (.tu [r,s])
  |_,_=>none
 |[v,u,z]=>match rvX P env st v,rvX P env st u,rvX P env st z with
  |some r,some s,some q=>some (.tu [r,s,q])
  |_,_,_=>none
 |_=>none
section
variable{P:Program}{env:Env}{st:List AO}
theorem gg{v:ResultVar}{r:AV}(h:rvX P env st v=some r):RV1 P env st v r:=by
 cases v with
 |tmp t=>exact bn h
 |cell p T=>
  dsimp only[rvX] at h
  split at h
  ·rename_i hp
   split at h
   ·rename_i hs
    split at h
    ·rename_i ha;exact iT hp hs ha h
    ·rename_i ha hn
     obtain⟨hb,h⟩:=bV h
     obtain rfl:=inS h
     exact cx hp hs ha hn hb
    ·cases h
   ·cases h
  ·cases h
theorem mX{fn:Func}{r:AV}(h:qd P env st fn.results.toList=some r):Res P fn env st r:=by
 have hl:∀L,fn.results.toList=L→fn.results=L.toArray:=λL hL=>by rw[←hL]
 unfold qd at h
 split at h
 ·rename_i hL
  obtain rfl:=inS h
  exact fb (hl _ hL)
 ·rename_i hL
  exact rs1 (hl _ hL) (gg h)
 ·rename_i hL
  split at h
  ·rename_i h1 h2
   obtain rfl:=inS h
   exact rs2 (hl _ hL) (gg h1) (gg h2)
  ·cases h
 ·rename_i hL
  split at h
  ·rename_i h1 h2 h3
   obtain rfl:=inS h
   exact rs3 (hl _ hL) (gg h1) (gg h2) (gg h3)
  ·cases h
 ·cases h
end
def sH(P:Program)(t:Ty)(call:bl)(hook:d4)(fuel:Nat)(fn:Func)(asz:List AV)(st:List AO):Option (AV×List AO):=
 match fn.body with
 |some c=>bif !(fn.name== "runtime.NumGoroutine")&&Nat.ble asz.length fn.ntmps then(match exC P t fn.ntmps call (rL P t call hook fuel) true hook fuel c (dG 0 asz) st with
  |some (.ret,env',st')=>(match qd P env' st' fn.results.toList with
   |some r=>some (r,st')
   |none=>none)
  |some (.normal,env',st')=>(match qd P env' st' fn.results.toList with
   |some r=>some (r,st')
   |none=>none)
  |_=>none) else none
 |none=>none
def fZ(a b:Nat):Nat:=bif Nat.ble a b then b else a
mutual
def AV.mx:AV→Nat
 | .ag ps=>AV.mxs ps
 | .pt id _=>id+1
 | .sr id _ _ _=>id+1
 | .fn _ a b=>fZ (AV.mxs a) (AV.mxs b)
 | .mp id=>id+1
 | .tu l=>AV.mxs l
 | .os id _=>id+1
 | .pe id _ _=>id+1
 | .ow id _ _ _ _=>id+1
 | .ifc _ x=>x.mx
 | .osf id _ _=>id+1
 | .pem id _ _ _=>id+1
 | .yl id=>id+1
 |_=>0
def AV.mxs:List AV→Nat
 |[]=>0
 |x::xs=>fZ x.mx (AV.mxs xs)
end
def AO.mx:AO→Nat
 | .row _ cs=>AV.mxs cs
 | .os _ _ _ es=>AV.mxs es.flatten
 | .mp es=>AV.mxs (es.map (·.2))
 | .fam _ _ _ ess=>AV.mxs ess.flatten.flatten
 | .lp _ vs _ _=>AV.mxs vs
 |_=>0
def mxO:List AO→Nat
 |[]=>0
 |o::l=>fZ o.mx (mxO l)
def jf(st:List AO):Nat→Nat→Nat
 |0,n=>n
 |k+1,n=>bif Nat.ble (mxO (st.take n)) n then n else jf st k (mxO (st.take n))
def gf(n:Nat)(r:AV)(st:List AO):Bool:=r.lt n&&e9 n (st.take n)
def oJ(n0:Nat)(r:AV)(st:List AO):List AO:=
 bif Nat.ble st.length (fZ n0 r.mx) then st else
 bif gf (fZ n0 r.mx) r st then st.take (fZ n0 r.mx) else
 bif Nat.ble n0 (jf st 4 (fZ n0 r.mx))&&gf (jf st 4 (fZ n0 r.mx)) r st then st.take (jf st 4 (fZ n0 r.mx)) else st
theorem lh{P:Program}{f:FuncId}{asz:List AV}{st st':List AO}{r:AV}{n:Nat}(h:Ctr P f asz st λr' s'=>r'=r∧s'=st')(hn:st.length≤n)(ht:gf n r st'=true):Ctr P f asz st (λr' s'=>r'=r∧s'=st'.take n):=by
 refine⟨h.1,λm φ w vs hs ha=>(h.2 m φ w vs hs ha).mono ?_⟩
 rintro en w' ⟨v,r',s',m',φ',he,⟨rfl,rfl⟩,hev,hsr,hra⟩
 unfold gf at ht
 rw[Bool.and_eq_true] at ht
 refine⟨v,r',_,m'.take n,φ',he,⟨rfl,rfl⟩,⟨λi c hi=>?_,λb ⟨i,c,h1,h2⟩=>hev.new b ⟨i,c,(bc h1).2,h2⟩,hev.os,hev.tape,hev.output,hev.size,hev.keep,hev.fz⟩,⟨by simp[hsr.len],λi o c h1 h2=>(hsr.obj i o c (bc h1).2 (bc h2).2).take (d9 ht.2 h1),hsr.lt,λi j o o' c c' b h1 h2 l1 l2 h3 h4=>hsr.inj i j o o' c c' b (bc h1).2 (bc h2).2 l1 l2 (bc h3).2 (bc h4).2,hsr.gl,λb ⟨i,c,h1,h2⟩=>hsr.nb b ⟨i,c,(bc h1).2,h2⟩⟩,RA.take _ _ ht.1 hra⟩
 obtain⟨c',h1,h2⟩:=hev.pre i c hi
 have:i<m.length:=(giS.1 hi).1
 rw[hs.len] at this
 exact⟨c',bG (Nat.ble_eq_true_of_le (show i+1≤n by omega)) h1,h2⟩
theorem oe{P:Program}{f:FuncId}{asz:List AV}{st st':List AO}{r:AV}(h:Ctr P f asz st λr' s'=>r'=r∧s'=st'):Ctr P f asz st (λr' s'=>r'=r∧s'=oJ st.length r st'):=by
 unfold oJ
 cases Nat.ble st'.length (fZ st.length r.mx) with
 |true=>exact h
 |false=>
  cases h1:gf (fZ st.length r.mx) r st' with
  |true=>
   refine lh h ?_ h1
   unfold fZ
   cases hb:Nat.ble st.length r.mx with
   |true=>exact nbT hb
   |false=>exact Nat.le_refl _
  |false=>
   cases h2:(Nat.ble st.length (jf st' 4 (fZ st.length r.mx))&&gf (jf st' 4 (fZ st.length r.mx)) r st') with
   |true=>
    rw[Bool.and_eq_true] at h2
    exact lh h (nbT h2.1) h2.2
   |false=>exact h
def exF(P:Program)(t:Ty)(fT:FuncId→Option Func)(kn:bl)(hook:d4)(fuel:Nat):Nat→bl
 |0=>λ_ _ _=>none
 |n+1=>λf asz st=>match kn f asz st with
  |some r=>some r
  |none=>(match fT f with
   |some fn=>(match sH P t (exF P t fT kn hook fuel n) hook fuel fn asz st with
    |some (r,st')=>some (r,oJ st.length r st')
    |none=>none)
   |none=>none)
section
variable{P:Program}{t:Ty}
theorem qW(ht:t.ok P=true){call:bl}(hc:bK P call){hook:d4}(hh:gB hook){fuel:Nat}{f:FuncId}{fn:Func}(hf:P.funcs[f]? =some fn){asz:List AV}{st st':List AO}{r:AV}(h:sH P t call hook fuel fn asz st=some (r,st')):Ctr P f asz st (λr' s'=>r'=r∧s'=st'):=by
 unfold sH at h
 split at h
 ·rename_i c hb
  obtain⟨hq,h⟩:=bV h
  rw[Bool.and_eq_true,Bool.not_eq_true'] at hq
  refine gv hf hq.1 hb rfl hq.2 λm φ w _=>?_
  split at h
  ·rename_i env1 st1 hx
   split at h
   ·rename_i r1 hr
    simp only[ak,Prod.mk.injEq] at h
    obtain⟨rfl,rfl⟩:=h
    exact(fp (e:=⟨m,φ,w,fn.ntmps,none,none⟩) ht hc (mF ht hc hh) (λ_=>⟨rfl,rfl⟩) hh rfl fuel).1 _ _ _ _ _ _ _ hx (aG (mX hr) ⟨rfl,rfl⟩)
   ·cases h
  ·rename_i env1 st1 hx
   split at h
   ·rename_i r1 hr
    simp only[ak,Prod.mk.injEq] at h
    obtain⟨rfl,rfl⟩:=h
    exact(fp (e:=⟨m,φ,w,fn.ntmps,none,none⟩) ht hc (mF ht hc hh) (λ_=>⟨rfl,rfl⟩) hh rfl fuel).1 _ _ _ _ _ _ _ hx (d6 (aG (mX hr) ⟨rfl,rfl⟩))
   ·cases h
  ·cases h
 ·cases h
theorem pD(ht:t.ok P=true){fT:FuncId→Option Func}(hT:∀f fn,fT f=some fn→P.funcs[f]? =some fn){kn:bl}(hk:bK P kn){hook:d4}(hh:gB hook){fuel:Nat}:∀n,bK P (exF P t fT kn hook fuel n)
 |0=>λ_ _ _ _ _ h=>by cases h
 |n+1=>λf asz st r st' h=>by
  unfold exF at h
  split at h
  ·rename_i hr
   obtain rfl:=inS h
   exact hk _ _ _ _ _ hr
  ·split at h
   ·rename_i fn hfn
    split at h
    ·rename_i r1 st1 hx
     simp only[ak,Prod.mk.injEq] at h
     obtain⟨rfl,rfl⟩:=h
     exact oe (qW ht (pD ht hT hk hh n) hh (hT _ _ hfn) hx)
    ·cases h
   ·cases h
end
mutual
def fzA(id ver:Nat)(y:AV):AV→AV
 | .os i v=>bif Nat.beq i id&&Nat.beq v ver then y else .os i v
 | .ag ps=> .ag (fzAs id ver y ps)
 | .tu ps=> .tu (fzAs id ver y ps)
 | .fn f a b=> .fn f (fzAs id ver y a) (fzAs id ver y b)
 | .ifc t x=> .ifc t (fzA id ver y x)
 |x=>x
def fzAs(id ver:Nat)(y:AV):List AV→List AV
 |[]=> []
 |x::l=>fzA id ver y x::fzAs id ver y l
end
section
variable{m:List Cz}{φ:Nat→Nat}{w:World}{id ver:Nat}{y:AV}{yv:Value}(hm:m[id]? =some (.tok ver yv))(hy:RA m φ w y yv)
include hm hy
mutual
theorem pS:∀(x:AV)(v:Value),RA m φ w x v→RA m φ w (fzA id ver y x) v
 | .os i u,v,h=>by
  rw[fzA]
  cases hb:Nat.beq i id&&Nat.beq u ver with
  |false=>exact h
  |true=>
   rw[Bool.and_eq_true] at hb
   have e1:=nbE hb.1
   have e2:=nbE hb.2
   subst e1 e2
   simp only[RA] at h
   obtain⟨v0,y0,h1,_,h3⟩:=h
   rw[hm] at h1
   simp only[ak,Cz.tok.injEq] at h1
   obtain⟨rfl,rfl⟩:=h1
   rw[h3 rfl]
   exact hy
 | .ag ps,v,h=>by
  rw[fzA]
  simp only[RA] at h⊢
  obtain⟨cs,h1,h2⟩:=h
  exact⟨cs,h1,RAs_fz ps cs h2⟩
 | .tu ps,v,h=>by
  rw[fzA]
  simp only[RA] at h⊢
  obtain⟨cs,h1,h2⟩:=h
  exact⟨cs,h1,RAs_fz ps cs h2⟩
 | .fn f a b,v,h=>by
  rw[fzA]
  simp only[RA] at h⊢
  obtain⟨fs,cs,h1,h2,h3⟩:=h
  exact⟨fs,cs,h1,RAs_fz a fs h2,RAs_fz b cs h3⟩
 | .ifc t x,v,h=>by
  rw[fzA]
  simp only[RA] at h⊢
  obtain⟨z,h1,h2⟩:=h
  exact⟨z,h1,pS x z h2⟩
 | .u,v,h=>h
 | .d _,v,h=>h
 | .pt _ _,v,h=>h
 | .sr _ _ _ _,v,h=>h
 | .mp _,v,h=>h
 | .pe _ _ _,v,h=>h
 | .ow _ _ _ _ _,v,h=>h
 | .fs _,v,h=>h
 | .osf _ _ _,v,h=>h
 | .pem _ _ _ _,v,h=>h
 | .yl _,v,h=>h
theorem RAs_fz:∀(xs:List AV)(vs:List Value),RAs m φ w xs vs→RAs m φ w (fzAs id ver y xs) vs
 |[],vs,h=>h
 |x::xs,vs,h=>by
  rw[fzAs]
  simp only[RAs] at h⊢
  obtain⟨c,cs,h1,h2,h3⟩:=h
  exact⟨c,cs,h1,pS x c h2,RAs_fz xs cs h3⟩
end
end
theorem eh(id ver:Nat)(y:AV):∀xs:List AV,fzAs id ver y xs=xs.map (fzA id ver y)
 |[]=>rfl
 |x::xs=>by rw[fzAs,eh id ver y xs,List.map_cons]
def fzO(id ver:Nat)(y:AV):AO→AO
 | .row T cs=> .row T (fzAs id ver y cs)
 | .os T k v es=> .os T k v (es.map (fzAs id ver y))
 |o=>o
theorem nh(id ver:Nat)(y:AV):∀es:List (List AV),(es.map (fzAs id ver y)).flatten=fzAs id ver y es.flatten
 |[]=>rfl
 |e::es=>by
  rw[List.map_cons,List.flatten_cons,List.flatten_cons,nh id ver y es,eh,eh,eh,List.map_append]
theorem OR_fz{m:List Cz}{φ:Nat→Nat}{w:World}{id ver:Nat}{y:AV}{yv:Value}(hm:m[id]? =some (.tok ver yv))(hy:RA m φ w y yv){o:AO}{c:Cz}(h:OR m φ w o c):OR m φ w (fzO id ver y o) c:=by
 cases o with
 |row T cs=>
  simp only[fzO,OR] at h⊢
  obtain⟨b,h1,h2,vs,h3,h4⟩:=h
  exact⟨b,h1,h2,vs,h3,RAs_fz hm hy _ _ h4⟩
 |os T k v es=>
  simp only[fzO,OR] at h⊢
  obtain⟨z,xs,h1,h2,h3,h4,h5⟩:=h
  refine⟨z,xs,h1,by rw[List.length_map];exact h2,by rw[nh];exact RAs_fz hm hy _ _ h3,λe he=>?_,h5⟩
  obtain⟨e',he',rfl⟩:=List.mem_map.1 he
  rw[eh,List.length_map]
  exact h4 e' he'
 |_=>exact h
theorem pw(id ver:Nat)(y:AV)(o:AO):(fzO id ver y o).live=o.live:=by cases o<;>rfl
theorem SR_fz{m:List Cz}{φ:Nat→Nat}{w:World}{st:List AO}{id ver:Nat}{y:AV}{yv:Value}(hm:m[id]? =some (.tok ver yv))(hy:RA m φ w y yv)(h:SR m φ st w):SR m φ (st.map (fzO id ver y)) w:=by
 refine⟨by rw[List.length_map];exact h.len,λi o c ho hc=>?_,h.lt,λi j o o' c c' b ho ho' hl hl' hc hc' hb hb'=>?_,h.gl,h.nb⟩
 ·rw[List.getElem?_map,Option.map_eq_some_iff] at ho
  obtain⟨o0,h0,rfl⟩:=ho
  exact OR_fz hm hy (h.obj i o0 c h0 hc)
 ·rw[List.getElem?_map,Option.map_eq_some_iff] at ho ho'
  obtain⟨o0,h0,rfl⟩:=ho
  obtain⟨o1,h1,rfl⟩:=ho'
  rw[pw] at hl hl'
  exact h.inj i j o0 o1 c c' b h0 h1 hl hl' hc hc' hb hb'
def fzE(id ver:Nat)(y:AV)(env:Env):Env:=env.map λp=>(p.1,fzA id ver y p.2)
theorem ni{id ver:Nat}{y:AV}:∀{env:Env}{t:Nat}{x:AV},(fzE id ver y env).get t=some x→∃x0,env.get t=some x0∧x=fzA id ver y x0
 |[],t,x,h=>by cases h
 |(k,v)::env,t,x,h=>by
  have h:(bif Nat.beq t k then some (fzA id ver y v) else Env.get (fzE id ver y env) t)=some x:=h
  show∃x0,(bif Nat.beq t k then some v else Env.get env t)=some x0∧_
  cases hb:Nat.beq t k with
  |true=>rw[hb] at h;exact⟨v,rfl,(inS h).symm⟩
  |false=>rw[hb] at h;exact ni h
theorem gh_fz{e:En}{env:Env}{st:List AO}{id ver T k:Nat}{ds:List (List D)}(hs:st[id]? =some (.os T k ver (ds.map λe=>e.map AV.d))):
  Gh e env st (fzE id ver (.d (.sl ds)) env) ((st.set id .dead).map (fzO id ver (.d (.sl ds)))):=λm φ a w hi=>by
 obtain⟨c,hcm⟩:∃c,m[id]? =some c:=by
  have:id<m.length:=by rw[hi.sr.len];exact(giS.1 hs).1
  exact⟨_,geG this⟩
 obtain⟨yv,xs,rfl,_⟩:=hi.sr.obj id _ _ hs hcm
 obtain⟨φ',f1,f2,f3⟩:=jr hi.sr hs hcm
 have h3:=hi.go f1 f2
 have hy:RA m φ' w (.d (.sl ds)) yv:=by simpa[RA] using f3
 refine⟨m,φ',SR_fz hcm hy h3.sr,h3.ev,⟨λt x hx=>?_,h3.env.gl⟩,h3.sz,h3.df⟩
 obtain⟨x0,g1,rfl⟩:=ni hx
 obtain⟨v,q1,q2⟩:=h3.env.get t x0 g1
 exact⟨v,q1,pS hcm hy _ _ q2⟩
def unD:AV→Option D
 | .d (.v (.slice none 0 0))=>some (.sl [])
 | .d x=>some x
 |_=>none
def p7:List AV→Option (List D)
 |[]=>some []
 |x::l=>match unD x,p7 l with
  |some d,some ds=>some (d::ds)
  |_,_=>none
def mP:List (List AV)→Option (List (List D))
 |[]=>some []
 |x::l=>match p7 x,mP l with
  |some d,some ds=>some (d::ds)
  |_,_=>none
theorem rU{x:AV}{d:D}(h:unD x=some d):Le x (.d d):=by
 unfold unD at h
 split at h
 ·obtain rfl:=inS h;exact Le.nil
 ·obtain rfl:=inS h;exact Le.refl _
 ·cases h
theorem mQ:∀{xs:List AV}{ds:List D},p7 xs=some ds→Les xs (ds.map .d)
 |[],ds,h=>by obtain rfl:=inS h;exact Les.refl _
 |x::xs,ds,h=>by
  unfold p7 at h
  split at h
  ·rename_i h1 h2
   obtain rfl:=inS h
   exact⟨rU h1,mQ h2⟩
  ·cases h
theorem kJ:∀{es:List (List AV)}{ds:List (List D)},mP es=some ds→Les es.flatten (ds.map λe=>e.map AV.d).flatten∧es.length=ds.length∧∀k,(∀e∈es,e.length=k)→∀e∈ds.map λe=>e.map AV.d,e.length=k
 |[],ds,h=>by obtain rfl:=inS h;exact⟨Les.refl _,rfl,λk _ e he=>by cases he⟩
 |x::es,ds,h=>by
  unfold mP at h
  split at h
  ·rename_i d ds' h1 h2
   obtain rfl:=inS h
   obtain⟨q1,q2,q3⟩:=kJ h2
   have hx:=mQ h1
   refine⟨by rw[List.flatten_cons,List.map_cons,List.flatten_cons];exact Les.app hx q1,by simp[q2],λk hk e he=>?_⟩
   rw[List.map_cons] at he
   rcases List.mem_cons.1 he with rfl|he
   ·have:=Les.len hx
    rw[←this];exact hk x List.mem_cons_self
   ·exact q3 k (λe he=>hk e (List.mem_cons_of_mem _ he)) e he
  ·cases h
theorem n6{e:En}{env:Env}{st:List AO}{id ver T k:Nat}{es es':List (List AV)}(hs:st[id]? =some (.os T k ver es))(h:Les es.flatten es'.flatten)(hl:es.length=es'.length)(hk:∀k,(∀e∈es,e.length=k)→∀e∈es',e.length=k):
  Gh e env st env (st.set id (.os T k ver es')):=λm φ a w hi=>by
 refine⟨m,φ,⟨⟨by rw[List.length_set];exact hi.sr.len,λi o c ho hc=>?_,hi.sr.lt,λi j o o' c c' b ho ho' hl1 hl2 hc hc' hb hb'=>?_,hi.sr.gl,hi.sr.nb⟩,hi.ev,hi.env,hi.sz,hi.df⟩⟩
 ·by_cases hid:id=i
  ·subst hid
   rw[List.getElem?_set_self (giS.1 hs).1] at ho
   obtain rfl:=inS ho
   have h0:=hi.sr.obj id _ c hs hc
   simp only[OR] at h0⊢
   obtain⟨z,xs,h1,h2,h3,h4,h5⟩:=h0
   exact⟨z,xs,h1,by rw[←hl];exact h2,h.ras h3,hk _ h4,h5⟩
  ·rw[List.getElem?_set_ne hid] at ho
   exact hi.sr.obj i o c ho hc
 ·have key:∀(i:Nat)(o:AO),(st.set id (.os T k ver es'))[i]? =some o→o.live=true→∃o0:AO,st[i]? =some o0∧o0.live=true:=λi o ho hl=>by
   by_cases hid:id=i
   ·subst hid;exact⟨_,hs,rfl⟩
   ·rw[List.getElem?_set_ne hid] at ho;exact⟨o,ho,hl⟩
  obtain⟨o0,g0,l0⟩:=key i o ho hl1
  obtain⟨o1,g1,l1⟩:=key j o' ho' hl2
  exact hi.sr.inj i j o0 o1 c c' b g0 g1 l0 l1 hc hc' hb hb'
theorem Gh.trans{e:En}{env env' env'':Env}{st st' st'':List AO}(h:Gh e env st env' st')(k:Gh e env' st' env'' st''):Gh e env st env'' st'':=λm φ a w hi=>by
 obtain⟨m',φ',h1⟩:=h m φ a w hi
 exact k m' φ' a w h1
theorem Gh.refl{e:En}{env:Env}{st:List AO}:Gh e env st env st:=λm φ _ _ hi=>⟨m,φ,hi⟩
def sC(id:Nat)(env:Env)(st:List AO):Option (Env×List AO):=match st[id]? with
 |some (.os _ _ ver es)=>(match mP es with
  |some ds=>some (fzE id ver (.d (.sl ds)) env,(st.set id .dead).map (fzO id ver (.d (.sl ds))))
  |none=>none)
 |_=>none
theorem qT{e:En}{id:Nat}{env env':Env}{st st':List AO}(h:sC id env st=some (env',st')):Gh e env st env' st':=by
 unfold sC at h
 split at h
 ·rename_i T k ver es hs
  split at h
  ·rename_i ds hd
   simp only[ak,Prod.mk.injEq] at h
   obtain⟨rfl,rfl⟩:=h
   obtain⟨q1,q2,q3⟩:=kJ hd
   refine(n6 hs q1 (by rw[List.length_map];exact q2) q3).trans ?_
   have hlt:=(giS.1 hs).1
   have:=gh_fz (e:=e) (env:=env) (st:=st.set id (.os T k ver (ds.map λe=>e.map AV.d))) (id:=id) (ds:=ds) (List.getElem?_set_self hlt)
   rw[List.set_set] at this
   exact this
  ·cases h
 ·cases h
mutual
def sx(st:List AO):Nat→AV→List Nat
 |0,_=> []
 |n+1,x=>match x with
  | .os id _=>(match st[id]? with
   |some (.os _ _ _ es)=>idsL st n es.flatten++ [id]
   |_=> [])
  | .ag ps=>idsL st n ps
  | .tu ps=>idsL st n ps
  | .fn _ a b=>idsL st n a++idsL st n b
  | .ifc _ y=>sx st n y
  |_=> []
def idsL(st:List AO):Nat→List AV→List Nat
 |0,_=> []
 |_,[]=> []
 |n+1,x::l=>sx st n x++idsL st n l
end
def n9:List Nat→Env→List AO→Option (Env×List AO)
 |[],env,st=>some (env,st)
 |id::l,env,st=>match st[id]? with
  |some .dead=>n9 l env st
  |_=>(match sC id env st with
   |some (env',st')=>n9 l env' st'
   |none=>none)
theorem j6{e:En}:∀{l:List Nat}{env env':Env}{st st':List AO},n9 l env st=some (env',st')→Gh e env st env' st'
 |[],env,env',st,st',h=>by
  simp only[n9,ak,Prod.mk.injEq] at h
  obtain⟨rfl,rfl⟩:=h
  exact Gh.refl
 |id::l,env,env',st,st',h=>by
  unfold n9 at h
  split at h
  ·exact j6 h
  ·split at h
   ·rename_i h1
    exact(qT h1).trans (j6 h)
   ·cases h
mutual
def leX:Nat→AV→D→Bool
 |0,_,_=>false
 |n+1,x,d=>match x with
  | .ag xs=>(match d with
   | .ag ds=>leXs n xs ds
   |_=>false)
  | .d (.ag ps)=>(match d with
   | .ag ds=>leXs n (ps.map .d) ds
   |_=>false)
  | .d (.v (.slice none 0 0))=>(match d with
   | .sl []=>true
   | .v (.slice none 0 0)=>true
   |_=>false)
  | .d a=>eqD a d
  |_=>false
def leXs:Nat→List AV→List D→Bool
 |0,_,_=>false
 |_,[],[]=>true
 |n+1,x::xs,d::ds=>leX n x d&&leXs n xs ds
 |_,_,_=>false
end
def unN:D→D
 | .v (.slice none 0 0)=> .sl []
 |x=>x
theorem rT{φ:Nat→Nat}{w:World}{x:D}{v:Value}(h:RD φ w x v):RD φ w (unN x) v:=by
 unfold unN
 split
 ·have:=Le.nil [] φ w v (by simpa[RA] using h)
  simpa[RA] using this
 ·exact h
def cg(f:AV→Option D):List AV→Option (List D)
 |[]=>some []
 |x::l=>match f x,cg f l with|some d,some ds=>some (d::ds)|_,_=>none
def ge(f:AV→Option D):List (List AV)→Option (List (List D))
 |[]=>some []
 |x::l=>match cg f x,ge f l with|some d,some ds=>some (d::ds)|_,_=>none
def e8(st:List AO):Nat→AV→Option D
 |0,_=>none
 |n+1,x=>match x with
  | .d x=>some (unN x)
  | .ag ps=>(cg (e8 st n) ps).map .ag
  | .os id ver=>match st[id]? with
   |some (.os _ _ ver' es)=>bif Nat.beq ver ver' then(ge (e8 st n) es).map .sl else none
   |_=>none
  | .ow id ver off len lo=>match st[id]? with
   |some (.os _ k ver' es)=>bif Nat.beq ver ver'&&(Nat.beq off (lo*k)&&Nat.ble (lo+len) es.length) then(ge (e8 st n) ((es.drop lo).take len)).map .sl else none
   |_=>none
  |_=>none
theorem d8{m φ w}{φ':Nat→Nat}{f:AV→Option D}(hf:∀x v d,RA m φ w x v→f x=some d→RD φ' w d v):∀{xs:List AV}{vs:List Value}{ds:List D},RAs m φ w xs vs→cg f xs=some ds→RFs φ' w ds vs
 |[],vs,ds,h,hv=>by
  simp only[cg,ak] at hv
  subst hv
  simpa[RAs,RFs] using h
 |x::xs,vs,ds,h,hv=>by
  simp only[RAs] at h
  obtain⟨c,cs,rfl,h1,h2⟩:=h
  simp only[cg] at hv
  split at hv
  ·rename_i d ds' e1 e2
   simp only[ak] at hv
   subst hv
   simp only[RFs]
   exact⟨c,cs,rfl,hf _ _ _ h1 e1,d8 hf h2 e2⟩
  ·cases hv
theorem jd{f:AV→Option D}:∀{xs:List AV}{ds:List D},cg f xs=some ds→ds.length=xs.length
 |[],ds,hv=>by simp only[cg,ak] at hv;subst hv;rfl
 |x::xs,ds,hv=>by
  simp only[cg] at hv
  split at hv
  ·rename_i d ds' e1 e2
   simp only[ak] at hv
   subst hv
   simp[jd e2]
  ·cases hv
theorem je{f:AV→Option D}:∀{xs ys:List AV}{ds es:List D},cg f xs=some ds→cg f ys=some es→cg f (xs++ys)=some (ds++es)
 |[],ys,ds,es,h,k=>by simp only[cg,ak] at h;subst h;exact k
 |x::xs,ys,ds,es,h,k=>by
  simp only[cg] at h
  split at h
  ·rename_i d ds' e1 e2
   simp only[ak] at h
   subst h
   simp only[List.cons_append,cg,e1,je e2 k]
  ·cases h
theorem gd{f:AV→Option D}{k:Nat}:∀{es:List (List AV)}{ds:List (List D)},ge f es=some ds→(∀e∈es,e.length=k)→cg f es.flatten=some ds.flatten∧ds.length=es.length∧∀e∈ds,e.length=k
 |[],ds,hv,_=>by simp only[ge,ak] at hv;subst hv;exact⟨rfl,rfl,λe he=>by cases he⟩
 |x::xs,ds,hv,hk=>by
  simp only[ge] at hv
  split at hv
  ·rename_i d ds' e1 e2
   simp only[ak] at hv
   subst hv
   obtain⟨h1,h2,h3⟩:=gd e2 (λe he=>hk e (List.mem_cons_of_mem _ he))
   refine⟨by rw[List.flatten_cons,List.flatten_cons];exact je e1 h1,by simp[h2],λe he=>?_⟩
   rcases List.mem_cons.1 he with rfl|he
   ·rw[jd e1];exact hk x List.mem_cons_self
   ·exact h3 e he
  ·cases hv
theorem j5{φ:Nat→Nat}{w:World}:Fz φ w (aC w) w:=λ_ _ _ _ h=>⟨cell_lt' h,h⟩
where
 cell_lt' {w:World} {b off:Nat} {c:Value} (h:w.cell? ⟨b,off,none⟩=some c):off<aC w b:=by
  unfold World.cell? at h
  unfold aC
  split at h
  ·rename_i cs t fr hh
   simp only at hh
   rw[hh]
   simp only[Option.isSome_none,Bool.false_eq_true,if_false] at h
   exact(Array.getElem?_eq_some_iff.1 h).1
  ·cases h
theorem mM{m φ st w}(hs:SR m φ st w):∀(n:Nat)(x:AV)(v:Value)(d:D),RA m φ w x v→e8 st n x=some d→RD (aC w) w d v
 |0,x,v,d,_,hv=>by simp[e8] at hv
 |n+1,x,v,d,h,hv=>by
  have ih:=mM hs n
  cases x with
  |d x=>
   simp only[e8,ak] at hv
   subst hv
   simp only[RA] at h
   exact rT (RD.mono j5 _ _ h)
  |ag ps=>
   simp only[e8,Option.map_eq_some_iff] at hv
   obtain⟨ds,h1,rfl⟩:=hv
   simp only[RA] at h
   obtain⟨cs,rfl,h2⟩:=h
   simp only[RD]
   exact⟨cs,rfl,d8 ih h2 h1⟩
  |os id ver=>
   simp only[e8] at hv
   split at hv
   ·rename_i T k ver' es hi
    cases hb:Nat.beq ver ver' with
    |false=>rw[hb] at hv;cases hv
    |true=>
     rw[hb,cdT,Option.map_eq_some_iff] at hv
     obtain⟨ds,hd,rfl⟩:=hv
     have hver:=nbE hb
     subst hver
     simp only[RA] at h
     obtain⟨v0,y0,g1,g2,g3⟩:=h
     obtain⟨y',xs,e1,h1,h2,h3,h4⟩:=hs.obj id _ _ hi g1
     simp only[Cz.tok.injEq] at e1
     obtain⟨rfl,rfl⟩:=e1
     have hy:=g3 rfl
     subst hy
     obtain⟨f1,f2,f3⟩:=gd hd h3
     have h2':RFs (aC w) w ds.flatten xs:=d8 ih h2 f1
     simp only[RD]
     rw[←f2] at h1
     rcases h1.2 with⟨rfl,hn⟩|⟨g,cap,cur,rfl,_,hg,hnc,_,_,_⟩
     ·exact .inl ⟨List.eq_nil_of_length_eq_zero hn,none,0,rfl,λ_=>rfl⟩
     ·refine .inr ⟨g,0,k,cap,rfl,hnc,f3,cV f3 h2' λj v hj=>?_⟩
      have:=co h1 hj
      rw[Nat.zero_add]
      exact⟨j5.cell_lt' this,this⟩
   ·cases hv
  |ow id ver off len lo=>
   simp only[e8] at hv
   split at hv
   ·rename_i T k ver' es hi
    cases hb:(Nat.beq ver ver'&&(Nat.beq off (lo*k)&&Nat.ble (lo+len) es.length)) with
    |false=>rw[hb] at hv;cases hv
    |true=>
     rw[hb,cdT,Option.map_eq_some_iff] at hv
     obtain⟨ds,hd,rfl⟩:=hv
     rw[Bool.and_eq_true,Bool.and_eq_true] at hb
     obtain⟨hb1,hb2,hb3⟩:=hb
     have hver:=nbE hb1
     have hoff:=nbE hb2
     have hfit:=nbT hb3
     subst hver;subst hoff
     obtain⟨y,xs,g1,h1,h2,h3,h4,h5⟩:=nW hs Piece.ow h hi
     have h3':∀e∈(es.drop lo).take len,e.length=k:=λe he=>h3 e (List.mem_of_mem_drop (List.mem_of_mem_take he))
     obtain⟨f1,f2,f3⟩:=gd hd h3'
     have hfl:((es.drop lo).take len).flatten=(es.flatten.drop (lo*k)).take (len*k):=by
      rw[eR _ _ (λe he=>h3 e (List.mem_of_mem_drop he)),eS _ _ h3]
     have h2':RAs m φ w ((es.drop lo).take len).flatten ((xs.drop (lo*k)).take (len*k)):=by
      rw[hfl];exact bx _ (bz _ h2)
     have h2'':RFs (aC w) w ds.flatten ((xs.drop (lo*k)).take (len*k)):=d8 ih h2' f1
     have hlen:ds.length=len:=by rw[f2,List.length_take,List.length_drop];omega
     have hxl:=h1.1
     simp only[RD]
     rcases h5 with⟨_,rfl,rfl⟩|⟨b,nn,cap,off',rfl,rfl,ho⟩
     ·exact .inl ⟨List.eq_nil_of_length_eq_zero hlen,none,0,rfl,λ_=>rfl⟩
     ·by_cases h0:len=0
      ·subst h0
       exact .inl ⟨List.eq_nil_of_length_eq_zero hlen,_,_,rfl,λh=>by cases h⟩
      ·have ho2:off'=lo*k:=ho.resolve_right h0
       subst ho2
       have hcap:nn=es.length∧nn≤cap:=by
        rcases h1.2 with⟨e1,_⟩|⟨g,cap',cur,e1,_,_,hnc,_,_,_⟩
        ·cases e1
        ·simp only[Value.slice.injEq] at e1;obtain⟨_,rfl,rfl⟩:=e1;exact⟨rfl,hnc⟩
       refine .inr ⟨b,lo*k,k,cap - lo,by rw[hlen],oM,f3,cV f3 h2'' λj v hj=>?_⟩
       have hj2:xs[lo*k+j]? =some v:=by
        rw[List.getElem?_take] at hj
        split at hj
        ·rw[List.getElem?_drop] at hj;exact hj
        ·cases hj
       have:=co h1 hj2
       exact⟨j5.cell_lt' this,this⟩
   ·cases hv
  |_=>simp[e8] at hv
section
variable{P:Program}{env:Env}{st:List AO}{dst:Option Tmp}{ty:TypeId}{pos:String}{after:Array Edge}{guard:Option (Nat×Bool)}
end
section
variable{P:Program}{e:En}{ops:Array Oper}{o:Oper}{rest:List Oper}{env:Env}{st:List AO}{R:Env→List AO→Prop}{d:Nat}
theorem nO{f:FuncId}{m φ w}{asz:List AV}{vs:List Value}{ds:List D}{y:D}{val:Value}(n:Nat)(hc:Pu P f ds y)(hg:y.gnd=some val)(hs:SR m φ st w)(ha:RAs m φ w asz vs)(hv:cg (e8 st n) asz=some ds):
  Calls P f ⟨vs⟩ w λen w'=>en= .returned val∧Below w.heap.size w w':=by
 have h1:RFs (aC w) w ds vs:=d8 (mM hs n) ha hv
 have hsr:SR [] (aC w) [] w:=kM w (hs.gl.mono j5)
 refine(hc.2 [] (aC w) w vs hsr (bv h1)).mono ?_
 rintro en w' ⟨v,r,st',m',φ',rfl,⟨rfl,rfl⟩,hev,_,hra⟩
 have hv2:=pR (by simpa[RA] using hra) hg
 subst hv2
 exact⟨rfl,hev.os,hev.tape,hev.output,hev.size,λb hb=>(hev.keep b hb (by simp[In])).1⟩
end
theorem oI{P:Program}{f:FuncId}{asz:List AV}{st:List AO}{ds:List D}{y:D}{val:Value}(n:Nat)(hc:Pu P f ds y)(hg:y.gnd=some val)(hv:cg (e8 st n) asz=some ds):Ctr P f asz st (λr' s'=>r'= .d y∧s'=st):=
 ⟨hc.1,λm φ w vs hs ha=>(nO n hc hg hs ha hv).mono λen w' h=>⟨val, .d y,st,m,φ,h.1,⟨rfl,rfl⟩,Ev.of_below hs h.2,hs.of_below h.2,by simpa[RA] using pu hg⟩⟩
def knV:List (FuncId×List D×D)→bl
 |[],_,_,_=>none
 |(g,ds,y)::tab,f,asz,st=>bif Nat.beq g f&&(y.gnd.isSome&&(match cg (e8 st 100) asz with
  |some ds'=>eqDs ds' ds
  |none=>false)) then some (.d y,st) else knV tab f asz st
theorem pj{P:Program}:∀{tab:List (FuncId×List D×D)},(∀p∈tab,Pu P p.1 p.2.1 p.2.2)→bK P (knV tab)
 |[],_,f,asz,st,r,st',h=>by cases h
 |(g,ds,y)::tab,ht,f,asz,st,r,st',h=>by
  unfold knV at h
  cases hb:(Nat.beq g f&&(y.gnd.isSome&&(match cg (e8 st 100) asz with
   |some ds'=>eqDs ds' ds
   |none=>false))) with
  |false=>rw[hb] at h;exact pj (λp hp=>ht p (List.mem_cons_of_mem _ hp)) f asz st r st' h
  |true=>
   rw[hb] at h
   simp only[cdT,ak,Prod.mk.injEq] at h
   obtain⟨rfl,rfl⟩:=h
   rw[Bool.and_eq_true,Bool.and_eq_true] at hb
   obtain⟨h1,h2,h3⟩:=hb
   have e:=nbE h1
   subst e
   obtain⟨val,hval⟩:=Option.isSome_iff_exists.1 h2
   split at h3
   ·rename_i ds' hv
    have:=eqDs_ok h3
    subst this
    exact oI 100 (ht _ List.mem_cons_self) hval hv
   ·cases h3
def orX(a b:bl):bl:=λf asz st=>match a f asz st with
 |some r=>some r
 |none=>b f asz st
theorem oU{P:Program}{a b:bl}(ha:bK P a)(hb:bK P b):bK P (orX a b):=λf asz st r st' h=>by
 unfold orX at h
 split at h
 ·rename_i h1
  obtain rfl:=inS h
  exact ha _ _ _ _ _ h1
 ·exact hb _ _ _ _ _ h
def sB:d4:=λo env st=>match o.op with
 | .slice _ x _ _ _=>(match opv env x with
  |some (.os id v)=>n9 (sx st 64 (.os id v)) env st
  |_=>none)
 |_=>none
theorem qS:gB sB:=λe o env st env' st' h=>by
 unfold sB at h
 split at h
 ·split at h
  ·exact j6 h
  ·cases h
 ·cases h
theorem nV{P:Program}{f:FuncId}{asz:List D}{r:D}{st':List AO}(h:Ctr P f (asz.map .d) [] λr' s'=>r'= .d r∧s'=st'):Pu P f asz r:=by
 refine⟨h.1,λm φ w vs hs ha=>(h.2 m φ w vs hs ha).mono ?_⟩
 rintro en w' ⟨v,r',s',m',φ',rfl,⟨rfl,rfl⟩,hev,hsr,hra⟩
 have hm:m=[]:=List.eq_nil_of_length_eq_zero hs.len
 subst hm
 exact⟨v,_,[],[],φ',rfl,⟨rfl,rfl⟩,⟨Pre.refl _,λ_ h=> .inl h,hev.os,hev.tape,hev.output,hev.size,hev.keep,hev.fz⟩,hsr.nil,by simpa[RA] using hra⟩
def j8:List (List AV)→List (List AV)→Bool
 |[],[]=>true
 |x::xs,y::ys=>eqAVs x y&&j8 xs ys
 |_,_=>false
theorem jw:∀{a b:List (List AV)},j8 a b=true→a=b
 |[],[],_=>rfl
 |x::xs,y::ys,h=>by
  simp only[j8,Bool.and_eq_true] at h
  rw[eqAVs_ok h.1,jw h.2]
 |[],_::_,h=>by cases h
 |_::_,[],h=>by cases h
def sO:AO→AO→Bool
 | .row T cs, .row T' cs'=>Nat.beq T T'&&eqAVs cs cs'
 | .os T k v es, .os T' k' v' es'=>Nat.beq T T'&&(Nat.beq k k'&&(Nat.beq v v'&&j8 es es'))
 | .dead, .dead=>true
 |_,_=>false
theorem q6{a b:AO}(h:sO a b=true):a=b:=by
 unfold sO at h
 split at h
 ·rw[Bool.and_eq_true] at h
  rw[nbE h.1,eqAVs_ok h.2]
 ·simp only[Bool.and_eq_true] at h
  rw[nbE h.1,nbE h.2.1,nbE h.2.2.1,jw h.2.2.2]
 ·rfl
 ·cases h
def ld:List AO→List AO→Bool
 |[],[]=>true
 |x::xs,y::ys=>sO x y&&ld xs ys
 |_,_=>false
theorem lc:∀{a b:List AO},ld a b=true→a=b
 |[],[],_=>rfl
 |x::xs,y::ys,h=>by
  simp only[ld,Bool.and_eq_true] at h
  rw[q6 h.1,lc h.2]
 |[],_::_,h=>by cases h
 |_::_,[],h=>by cases h
def knM:List (FuncId×List AV×List AO×AV×List AO)→bl
 |[],_,_,_=>none
 |(g,xs,s,r,s')::tab,f,asz,st=>bif Nat.beq g f&&(eqAVs asz xs&&ld st s) then some (r,s') else knM tab f asz st
theorem pm{P:Program}:∀{tab:List (FuncId×List AV×List AO×AV×List AO)},(∀p∈tab,Ctr P p.1 p.2.1 p.2.2.1 λr' s'=>r'=p.2.2.2.1∧s'=p.2.2.2.2)→bK P (knM tab)
 |[],_,f,asz,st,r,st',h=>by cases h
 |(g,xs,s,r0,s0)::tab,ht,f,asz,st,r,st',h=>by
  unfold knM at h
  cases hb:(Nat.beq g f&&(eqAVs asz xs&&ld st s)) with
  |false=>rw[hb] at h;exact pm (λp hp=>ht p (List.mem_cons_of_mem _ hp)) f asz st r st' h
  |true=>
   rw[hb] at h
   simp only[cdT,ak,Prod.mk.injEq] at h
   obtain⟨rfl,rfl⟩:=h
   rw[Bool.and_eq_true,Bool.and_eq_true] at hb
   have e:=nbE hb.1
   subst e
   rw[eqAVs_ok hb.2.1,lc hb.2.2]
   exact ht _ List.mem_cons_self
end Go.Sk
