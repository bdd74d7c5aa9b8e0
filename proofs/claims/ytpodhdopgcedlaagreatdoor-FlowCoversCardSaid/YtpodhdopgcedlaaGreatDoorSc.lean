/-
  A run of operations without a condition is computed: a function on abstract states, sound once for all.
-/
import Derived.Test.YtpodhdopgcedlaaGreatDoorSb
set_option linter.unusedVariables false
set_option linter.unusedSimpArgs false
set_option linter.unusedSectionVars false
set_option linter.unnecessarySimpa false
namespace Go.Sk
inductive NT(α:Type) where
 |lf
 |nd(k:Nat)(v:α)(l r:NT α)
def NT.get{α:Type}:NT α→Nat→Option α
 | .lf,_=>none
 | .nd k v l r,i=>bif Nat.beq i k then some v else bif Nat.blt i k then l.get i else r.get i
def NT.chk{α:Type}(f:Nat→Option α)(eq:α→α→Bool):NT α→Bool
 | .lf=>true
 | .nd k v l r=>(match f k with|some u=>eq u v|none=>false)&&(l.chk f eq&&r.chk f eq)
theorem eb{α:Type}{f:Nat→Option α}{eq:α→α→Bool}(he:∀a b,eq a b=true→a=b):∀{t:NT α},t.chk f eq=true→∀{i:Nat}{v:α},t.get i=some v→f i=some v
 | .lf,_,i,v,h=>by cases h
 | .nd k u l r,hc,i,v,h=>by
  simp only[NT.chk,Bool.and_eq_true] at hc
  unfold NT.get at h
  cases hb:Nat.beq i k with
  |true=>
   rw[hb] at h
   obtain rfl:=nbE hb
   obtain rfl:=inS h
   have h1:=hc.1
   cases hf:f i with
   |none=>rw[hf] at h1;cases h1
   |some w=>rw[hf] at h1;rw[he _ _ h1]
  |false=>
   rw[hb] at h
   simp only[cdF] at h
   cases hl:Nat.blt i k with
   |true=>rw[hl] at h;exact eb he hc.2.1 h
   |false=>rw[hl] at h;exact eb he hc.2.2 h
structure Ty where
 ag:NT Bool
 sz:NT Nat
 fo:NT (Nat×Nat×Bool)
 un:NT IntKind
def unK(P:Program)(T:Nat):Option IntKind:=match P.underlying T with
 |some (.int k)=>some k
 |_=>none
def foEq(a b:Nat×Nat×Bool):Bool:=Nat.beq a.1 b.1&&(Nat.beq a.2.1 b.2.1&&(a.2.2==b.2.2))
def Ty.ok(P:Program)(t:Ty):Bool:=
 t.ag.chk (ba P) (·==·)&&(t.sz.chk (bi P) Nat.beq&&(t.fo.chk (λi=>de P (i / 64) (i%64)) foEq&&t.un.chk (unK P) (λa b=>decide (a=b))))
def Ty.fo'(t:Ty)(S i:Nat):Option (Nat×Nat×Bool):=bif Nat.blt i 64 then t.fo.get (S*64+i) else none
class Tys(P:Program) where
 t:Ty
 h:t.ok P=true
section
variable{P:Program}{t:Ty}(ht:t.ok P=true)
include ht
theorem jU{T:Nat}{b:Bool}(h:t.ag.get T=some b):ba P T=some b:=by
 simp only[Ty.ok,Bool.and_eq_true] at ht
 exact eb (λa b h=>by simpa using h) ht.1 h
theorem qg{T:Nat}{b:Nat}(h:t.sz.get T=some b):bi P T=some b:=by
 simp only[Ty.ok,Bool.and_eq_true] at ht
 exact eb (λa b h=>nbE h) ht.2.1 h
theorem fV{S i:Nat}{b:Nat×Nat×Bool}(h:t.fo' S i=some b):de P S i=some b:=by
 simp only[Ty.ok,Bool.and_eq_true] at ht
 unfold Ty.fo' at h
 cases hb:Nat.blt i 64 with
 |false=>rw[hb] at h;cases h
 |true=>
  rw[hb] at h
  have hlt:i<64:=by have:=nbT hb;omega
  have:=eb (λa b h=>by
   simp only[foEq,Bool.and_eq_true] at h
   obtain⟨h1,h2,h3⟩:=h
   obtain⟨a1,a2,a3⟩:=a
   obtain⟨b1,b2,b3⟩:=b
   simp only at h1 h2 h3
   rw[nbE h1,nbE h2,eq_of_beq h3]) ht.2.2.1 h
  have e1:(S*64+i) / 64=S:=oM
  have e2:(S*64+i)%64=i:=oM
  simpa only[e1,e2] using this
theorem qf{T:Nat}{k:IntKind}(h:t.un.get T=some k):P.underlying T=some (.int k):=by
 simp only[Ty.ok,Bool.and_eq_true] at ht
 have:=eb (λa b h=>of_decide_eq_true h) ht.2.2.2 h
 unfold unK at this
 split at this
 ·rename_i hu;rw[hu];rw[inS this]
 ·cases this
end
def yo(k:IntKind)(p q:Int):BinOp→Option AV
 | .add=>some (.d (.v (.int k (k.wrap (p+q)))))
 | .sub=>some (.d (.v (.int k (k.wrap (p - q)))))
 | .mul=>some (.d (.v (.int k (k.wrap (p*q)))))
 | .lss=>some (.d (.v (.bool (decide (p<q)))))
 | .leq=>some (.d (.v (.bool (decide (p≤q)))))
 | .gtr=>some (.d (.v (.bool (decide (p>q)))))
 | .geq=>some (.d (.v (.bool (decide (p≥q)))))
 | .eql=>some (.d (.v (.bool (decide (p=q)))))
 | .neq=>some (.d (.v (.bool (!decide (p=q)))))
 |_=>none
def yh(p q:ByteArray):BinOp→Option AV
 | .eql=>some (.d (.v (.bool (p.toList==q.toList))))
 | .neq=>some (.d (.v (.bool (!(p.toList==q.toList)))))
 |_=>none
def binS(b:BinOp):AV→AV→Option AV
 | .d (.v (.int k p)), .d (.v (.int k' q))=>bif decide (k=k') then yo k p q b else none
 | .d (.v (.string p)), .d (.v (.string q))=>yh p q b
 |_,_=>none
def ym(t:Ty)(st:List AO)(T:Nat):AV→Option AV
 | .pt id off=>match t.ag.get T with
  |some false=>match st[id]? with
   |some (.row _ cs)=>cs[off]?
   |_=>none
  |some true=>match st[id]?,t.sz.get T with
   |some (.row _ cs),some n=>bif Nat.ble (off+n) cs.length then some (.ag ((cs.drop off).take n)) else none
   |_,_=>none
  |none=>none
 | .d (.pc ps)=>match t.ag.get T with
  |some false=>match ps[0]? with
   |some p=>some (.d p)
   |none=>none
  |some true=>match t.sz.get T with
   |some n=>bif Nat.ble n ps.length then some (.d (.ag (ps.take n))) else none
   |none=>none
  |none=>none
 |_=>none
def faS(fo:Nat):AV→Option AV
 | .pt id off=>some (.pt id (off+fo))
 | .d (.pc ps)=>some (.d (.pc (ps.drop fo)))
 |_=>none
def fldS(f:Nat×Nat×Bool):AV→Option AV
 | .d (.ag ps)=>match f with
  |(fo,_,false)=>match ps[fo]? with
   |some p=>some (.d p)
   |none=>none
  |(fo,n,true)=>some (.d (.ag ((ps.drop fo).take n)))
 | .ag ps=>match f with
  |(fo,_,false)=>ps[fo]?
  |(fo,n,true)=>some (.ag ((ps.drop fo).take n))
 |_=>none
def nilS:AV→Option AV
 | .pt id off=>some (.pt id off)
 | .d (.pc ps)=>some (.d (.pc ps))
 | .fn (.func f) a b=>some (.fn (.func f) a b)
 |_=>none
def extS(i:Nat):AV→Option AV
 | .tu l=>l[i]?
 | .d (.tu l)=>match l[i]? with
  |some p=>some (.d p)
  |none=>none
 |_=>none
def notS:AV→Option AV
 | .d (.v (.bool b))=>some (.d (.v (.bool (!b))))
 |_=>none
def negS:AV→Option AV
 | .d (.v (.int k p))=>some (.d (.v (.int k (k.wrap (0 - p)))))
 |_=>none
def yG(k:IntKind):AV→Option AV
 | .d (.v (.int _ p))=>some (.d (.v (.int k (k.wrap p))))
 |_=>none
def qd:AV→Option Bool
 | .d (.v (.bool b))=>some b
 |_=>none
theorem fS{x:AV}{b:Bool}(h:qd x=some b):x= .d (.v (.bool b)):=by
 unfold qd at h
 split at h
 ·rw[inS h]
 ·cases h
def jx(t:Ty)(env:Env)(st:List AO):Op→Option AV
 | .move x=>opv env x
 | .assign x=>opv env x
 | .pick c x y=>match(opv env c).bind qd with
  |some true=>opv env x
  |some false=>opv env y
  |none=>none
 | .load T x=>(opv env x).bind (ym t st T)
 | .fieldAddr S x i=>match t.fo' S i with
  |some (fo,_+1,_)=>(opv env x).bind (faS fo)
  |_=>none
 | .field S x i=>match t.fo' S i with
  |some f=>(opv env x).bind (fldS f)
  |none=>none
 | .nilCheck x=>(opv env x).bind nilS
 | .extract x i=>(opv env x).bind (extS i)
 | .unOp .not _ x=>(opv env x).bind notS
 | .unOp .neg _ x=>(opv env x).bind negS
 | .binOp b _ x y _=>match opv env x,opv env y with
  |some u1,some v1=>binS b u1 v1
  |_,_=>none
 | .convert S T x=>match t.un.get S,t.un.get T with
  |some _,some k=>(opv env x).bind (yG k)
  |_,_=>none
 | .makeFunc f first caps=>match bU env first.toList,bU env caps.toList with
  |some a,some b=>some (.fn f a b)
  |_,_=>none
 |_=>none
theorem bF{α β:Type}{o:Option α}{f:α→Option β}{r:β}(h:o.bind f=some r):∃x,o=some x∧f x=some r:=by
 cases o with
 |none=>cases h
 |some x=>exact⟨x,rfl,h⟩
section
variable{P:Program}{t:Ty}(ht:t.ok P=true){env:Env}{st:List AO}{dst:Option Tmp}{ty:TypeId}{pos:String}{after:Array Edge}{guard:Option (Nat×Bool)}
include ht
theorem l4{op:Op}{r:AV}(h:jx t env st op=some r):Yields P env st ⟨dst,op,ty,pos,after,guard⟩ r:=by
 cases op with
 |move x=>exact yS h
 |assign x=>exact uh h
 |pick c x y=>
  dsimp only[jx] at h
  split at h
  ·rename_i hc;obtain⟨z,h1,h2⟩:=bF hc;rw[fS h2] at h1;exact tY h1 h
  ·rename_i hc;obtain⟨z,h1,h2⟩:=bF hc;rw[fS h2] at h1;exact tZ h1 h
  ·cases h
 |load T x=>
  obtain⟨z,h1,h2⟩:=bF h
  unfold ym at h2
  split at h2
  ·split at h2
   ·rename_i ha
    split at h2
    ·rename_i hs;exact yT h1 hs (jU ht ha) h2
    ·cases h2
   ·rename_i ha
    split at h2
    ·rename_i hs hn
     cases hb:Nat.ble (_+_) (List.length _) with
     |false=>rw[hb] at h2;cases h2
     |true=>rw[hb] at h2;obtain rfl:=inS h2;exact wo h1 hs (jU ht ha) (qg ht hn) hb
    ·cases h2
   ·cases h2
  ·split at h2
   ·rename_i ha
    split at h2
    ·rename_i hp;obtain rfl:=inS h2;exact wn h1 (jU ht ha) hp
    ·cases h2
   ·rename_i ha
    split at h2
    ·rename_i hn
     cases hb:Nat.ble _ (List.length _) with
     |false=>rw[hb] at h2;cases h2
     |true=>rw[hb] at h2;obtain rfl:=inS h2;exact t8 h1 (jU ht ha) (qg ht hn) hb
    ·cases h2
   ·cases h2
  ·cases h2
 |fieldAddr S x i=>
  dsimp only[jx] at h
  split at h
  ·rename_i hf
   obtain⟨z,h1,h2⟩:=bF h
   unfold faS at h2
   split at h2
   ·obtain rfl:=inS h2;exact oZ (fV ht hf) h1
   ·obtain rfl:=inS h2;exact nL (fV ht hf) h1
   ·cases h2
  ·cases h
 |field S x i=>
  dsimp only[jx] at h
  split at h
  ·rename_i hf
   obtain⟨z,h1,h2⟩:=bF h
   unfold fldS at h2
   split at h2
   ·split at h2
    ·split at h2
     ·rename_i hp;obtain rfl:=inS h2;exact wr (fV ht hf) h1 hp
     ·cases h2
    ·obtain rfl:=inS h2;exact ue (fV ht hf) h1
   ·split at h2
    ·exact ud (fV ht hf) h1 h2
    ·obtain rfl:=inS h2;exact s5 (fV ht hf) h1
   ·cases h2
  ·cases h
 |nilCheck x=>
  obtain⟨z,h1,h2⟩:=bF h
  unfold nilS at h2
  split at h2
  ·obtain rfl:=inS h2;exact oV h1
  ·obtain rfl:=inS h2;exact oY h1
  ·obtain rfl:=inS h2;exact oW h1
  ·cases h2
 |extract x i=>
  obtain⟨z,h1,h2⟩:=bF h
  unfold extS at h2
  split at h2
  ·exact s7 h1 h2
  ·split at h2
   ·rename_i hp;obtain rfl:=inS h2;exact qs h1 hp
   ·cases h2
  ·cases h2
 |unOp u T x=>
  cases u with
  |not=>
   obtain⟨z,h1,h2⟩:=bF h
   unfold notS at h2
   split at h2
   ·obtain rfl:=inS h2;exact y_not h1
   ·cases h2
  |neg=>
   obtain⟨z,h1,h2⟩:=bF h
   unfold negS at h2
   split at h2
   ·obtain rfl:=inS h2;exact y_neg h1 rfl
   ·cases h2
  |_=>cases h
 |binOp b T x y T'=>
  dsimp only[jx] at h
  split at h
  ·rename_i hu hv
   unfold binS at h
   split at h
   ·rename_i k p k' q
    cases hk:decide (k=k') with
    |false=>rw[hk] at h;cases h
    |true=>
     rw[hk] at h
     have hk:=of_decide_eq_true hk
     subst hk
     simp only[cdT] at h
     cases b<;>simp only[yo] at h<;>first|cases h|(obtain rfl:=inS h)
     ·exact jv hu hv rfl
     ·exact y_sub hu hv rfl
     ·exact y_mul hu hv rfl
     ·exact y_eql hu hv
     ·exact y_neq hu hv
     ·exact y_lss hu hv
     ·exact y_leq hu hv
     ·exact y_gtr hu hv
     ·exact y_geq hu hv
   ·cases b<;>simp only[yh] at h<;>first|cases h|(obtain rfl:=inS h)
    ·exact yf hu hv
    ·exact y_nes hu hv
   ·cases h
  ·cases h
 |convert S T x=>
  dsimp only[jx] at h
  split at h
  ·rename_i hS hT
   obtain⟨z,h1,h2⟩:=bF h
   unfold yG at h2
   split at h2
   ·obtain rfl:=inS h2;exact yU (qf ht hS) (qf ht hT) h1 rfl
   ·cases h2
  ·cases h
 |makeFunc f a b=>
  dsimp only[jx] at h
  split at h
  ·rename_i h1 h2
   obtain rfl:=inS h
   exact qq h1 h2
  ·cases h
 |_=>cases h
end
def gF(ops:Array Oper)(env:Env):Option (Nat×Bool)→Option Bool
 |none=>some true
 |some (j,b)=>match(ops[j]?).bind (·.dst) with
  |some t=>match env.get t with
   |some (.d (.v (.bool x)))=>some (x==b)
   |some (.d (.v (.tuple _)))=>some false
   |_=>none
  |none=>none
def kS(t:Ty)(n:Nat)(ops:Array Oper)(st:List AO)(env:Env)(o:Oper):Option Env:=
 match gF ops env o.guard with
 |some true=>match o.dst with
  |some d=>bif Nat.ble (d+1) n then(match jx t env st o.op with
   |some r=>some ((d,r)::env)
   |none=>none) else none
  |none=>none
 |some false=>match o.dst with
  |some d=>bif Nat.ble (d+1) n then some ((d, .d (.v undef))::env) else none
  |none=>some env
 |none=>none
def jC(t:Ty)(n:Nat)(ops:Array Oper)(st:List AO):Nat→List Oper→Env→Option (List Oper×Env)
 |0,l,env=>some (l,env)
 |k+1,o::l,env=>match kS t n ops st env o with
  |some env'=>jC t n ops st k l env'
  |none=>none
 |_+1,[],_=>none
section
variable{P:Program}{t:Ty}(ht:t.ok P=true){e:En}{ops:Array Oper}{st:List AO}{R:Env→List AO→Prop}{n:Nat}{RQ:Env→Prop}
omit ht in
theorem cF{env:Env}{o:Oper}(h:gF ops env o.guard=some true):Wt ops env o true:=by
 unfold gF at h
 split at h
 ·rename_i hg;exact Wt.none hg
 ·rename_i j b hg
  split at h
  ·rename_i hj
   split at h
   ·rename_i x hx
    have:x=b:=by simpa using h
    subst this
    exact Wt.yes hg hj hx
   ·cases h
   ·cases h
  ·cases h
omit ht in
theorem cD{env:Env}{o:Oper}(h:gF ops env o.guard=some false):Wt ops env o false:=by
 unfold gF at h
 split at h
 ·cases h
 ·rename_i j b hg
  split at h
  ·rename_i hj
   split at h
   ·rename_i x hx
    exact Wt.no hg hj hx (inS h)
   ·rename_i x hx
    intro m φ w a he
    simp only[Region.wanted,hg,iV he hj hx];rfl
   ·cases h
  ·cases h
include ht
theorem jy{env env':Env}{o:Oper}{l:List Oper}(h:kS t e.n ops st env o=some env')(k:WL P e ops l env' st R):WL P e ops (o::l) env st R:=by
 unfold kS at h
 split at h
 ·rename_i hw
  split at h
  ·rename_i d hd
   cases hb:Nat.ble (d+1) e.n with
   |false=>rw[hb] at h;cases h
   |true=>
    rw[hb] at h
    simp only[cdT] at h
    split at h
    ·rename_i r hr
     obtain rfl:=inS h
     obtain⟨od,oop,oty,opos,oaf,og⟩:=o
     exact WL.q (l4 ht hr) (cF hw) hd hb k
    ·cases h
  ·cases h
 ·rename_i hw
  split at h
  ·rename_i d hd
   cases hb:Nat.ble (d+1) e.n with
   |false=>rw[hb] at h;cases h
   |true=>rw[hb] at h;obtain rfl:=inS h;exact WL.skip (cD hw) hd hb k
  ·rename_i hd;obtain rfl:=inS h;exact WL.skip0 (cD hw) hd k
 ·cases h
theorem uo{env env':Env}{o:Oper}{l:List Oper}(h:kS t n ops st env o=some env')(k:WQ P n ops l env' st RQ):WQ P n ops (o::l) env st RQ:=by
 unfold kS at h
 split at h
 ·rename_i hw
  split at h
  ·rename_i d hd
   cases hb:Nat.ble (d+1) n with
   |false=>rw[hb] at h;cases h
   |true=>
    rw[hb] at h
    simp only[cdT] at h
    split at h
    ·rename_i r hr
     obtain rfl:=inS h
     obtain⟨od,oop,oty,opos,oaf,og⟩:=o
     exact WQ.q (Yields.quiet (l4 ht hr)) (cF hw) hd hb k
    ·cases h
  ·cases h
 ·rename_i hw
  split at h
  ·rename_i d hd
   cases hb:Nat.ble (d+1) n with
   |false=>rw[hb] at h;cases h
   |true=>rw[hb] at h;obtain rfl:=inS h;exact WQ.skip (cD hw) hd hb k
  ·rename_i hd;obtain rfl:=inS h;exact WQ.skip0 (cD hw) hd k
 ·cases h
theorem rF:∀{k:Nat}{l l':List Oper}{env env':Env},jC t e.n ops st k l env=some (l',env')→WL P e ops l' env' st R→WL P e ops l env st R
 |0,l,l',env,env',h,k=>by obtain⟨rfl,rfl⟩:=Prod.mk.inj (inS h);exact k
 |j+1,[],l',env,env',h,k=>by cases h
 |j+1,o::l,l',env,env',h,k=>by
  unfold jC at h
  split at h
  ·rename_i hs;exact jy ht hs (rF h k)
  ·cases h
theorem rE:∀{k:Nat}{l l':List Oper}{env env':Env},jC t n ops st k l env=some (l',env')→WQ P n ops l' env' st RQ→WQ P n ops l env st RQ
 |0,l,l',env,env',h,k=>by obtain⟨rfl,rfl⟩:=Prod.mk.inj (inS h);exact k
 |j+1,[],l',env,env',h,k=>by cases h
 |j+1,o::l,l',env,env',h,k=>by
  unfold jC at h
  split at h
  ·rename_i hs;exact uo ht hs (rE h k)
  ·cases h
end
theorem Rl{P:Program}[T:Tys P]{e:En}{ops:Array Oper}{st:List AO}{R:Env→List AO→Prop}{l l':List Oper}{env env':Env}(k:Nat)(h:jC T.t e.n ops st k l env=some (l',env'))(hw:WL P e ops l' env' st R):WL P e ops l env st R:=rF T.h h hw
theorem Rq{P:Program}[T:Tys P]{n:Nat}{ops:Array Oper}{st:List AO}{R:Env→Prop}{l l':List Oper}{env env':Env}(k:Nat)(h:jC T.t n ops st k l env=some (l',env'))(hw:WQ P n ops l' env' st R):WQ P n ops l env st R:=rE T.h h hw
inductive SS where
 |c(c:Code)(k:Ko)
 |x(x:Exit)(k:Ko)
 |l(ops:Array Oper)(l:List Oper)(k:Ko)
@[reducible] def SS.den(P:Program)(e:En)(env:Env)(st:List AO):SS→Prop
 | .c cd k=>WC P e cd k env st
 | .x ex k=>WE P e ex k env st
 | .l ops ol k=>WL P e ops ol env st (λenv' st'=>WE P e .normal k env' st')
def ctlC(k:Ko):Code→Option SS
 | .seq x y=>some (.c x (.seq y k))
 | .skip=>some (.x .normal k)
 | .ret=>some (.x .ret k)
 | .exit i=>some (.x (.exit i) k)
 | .block i x=>some (.c x (.blk i k))
 | .region _ a false=>bif bO a.toList then some (.l a a.toList k) else none
 |_=>none
def ctlX:Exit→Ko→Option SS
 | .normal, .seq c k=>some (.c c k)
 | .ret, .seq _ k=>some (.x .ret k)
 | .exit i, .seq _ k=>some (.x (.exit i) k)
 | .normal, .blk _ k=>some (.x .normal k)
 | .ret, .blk _ k=>some (.x .ret k)
 | .exit i, .blk j k=>bif Nat.beq i j then some (.x .normal k) else some (.x (.exit i) k)
 | .ret, .lp _ k=>some (.x .ret k)
 | .exit i, .lp _ k=>some (.x (.exit i) k)
 |_,_=>none
def pb(t:Ty)(n:Nat)(st:List AO)(env:Env):SS→Option (SS×Env)
 | .c cd k=>match ctlC k cd with
  |some s=>some (s,env)
  |none=>none
 | .x ex k=>match ctlX ex k with
  |some s=>some (s,env)
  |none=>none
 | .l _ [] k=>some (.x .normal k,env)
 | .l ops (o::l) k=>match kS t n ops st env o with
  |some env'=>some (.l ops l k,env')
  |none=>none
def lj(t:Ty)(n:Nat)(st:List AO):Nat→SS→Env→Option (SS×Env)
 |0,s,env=>some (s,env)
 |k+1,s,env=>match pb t n st env s with
  |some (s',env')=>lj t n st k s' env'
  |none=>none
section
variable{P:Program}{t:Ty}(ht:t.ok P=true){e:En}{st:List AO}
include ht
theorem um{env env':Env}{s s':SS}(h:pb t e.n st env s=some (s',env'))(k:s'.den P e env' st):s.den P e env st:=by
 cases s with
 |c c κ=>
  dsimp only[pb] at h
  split at h
  ·rename_i s1 hc
   obtain⟨rfl,rfl⟩:=Prod.mk.inj (inS h)
   cases c with
   |seq x y=>obtain rfl:=inS hc;exact lX k
   |skip=>obtain rfl:=inS hc;exact nO k
   |ret=>obtain rfl:=inS hc;exact qz k
   |exit i=>obtain rfl:=inS hc;exact nP k
   |block i x=>obtain rfl:=inS hc;exact fO k
   |region i a b=>
    cases b with
    |true=>cases hc
    |false=>
     dsimp only[ctlC] at hc
     cases hb:bO a.toList with
     |false=>rw[hb] at hc;cases hc
     |true=>
      rw[hb] at hc
      obtain rfl:=inS hc
      exact kd (l:=a.toList) k hb
   |_=>cases hc
  ·cases h
 |x x κ=>
  dsimp only[pb] at h
  split at h
  ·rename_i s1 hc
   obtain⟨rfl,rfl⟩:=Prod.mk.inj (inS h)
   unfold ctlX at hc
   split at hc
   ·obtain rfl:=inS hc;exact nM k
   ·obtain rfl:=inS hc;exact iX k
   ·obtain rfl:=inS hc;exact gB k
   ·obtain rfl:=inS hc;exact qx k
   ·obtain rfl:=inS hc;exact iZ k
   ·rename_i i j κ'
    cases hb:Nat.beq i j with
    |true=>rw[hb] at hc;obtain rfl:=inS hc;obtain rfl:=nbE hb;exact ja k
    |false=>rw[hb] at hc;obtain rfl:=inS hc;exact gD hb k
   ·obtain rfl:=inS hc;exact s8 k
   ·obtain rfl:=inS hc;exact qw k
   ·cases hc
  ·cases h
 |l ops l κ=>
  cases l with
  |nil=>obtain⟨rfl,rfl⟩:=Prod.mk.inj (inS h);exact WL.nil k
  |cons o l=>
   dsimp only[pb] at h
   split at h
   ·rename_i env1 hs
    obtain⟨rfl,rfl⟩:=Prod.mk.inj (inS h)
    exact jy ht hs k
   ·cases h
theorem eo:∀{k:Nat}{s s':SS}{env env':Env},lj t e.n st k s env=some (s',env')→s'.den P e env' st→s.den P e env st
 |0,s,s',env,env',h,k=>by obtain⟨rfl,rfl⟩:=Prod.mk.inj (inS h);exact k
 |j+1,s,s',env,env',h,k=>by
  unfold lj at h
  split at h
  ·rename_i hs;exact um ht hs (eo h k)
  ·cases h
end
section
variable{P:Program}[T:Tys P]{e:En}{st:List AO}{env env':Env}{κ κ':Ko}
theorem Rcc{c:Code}{c':Code}(k:Nat)(h:lj T.t e.n st k (.c c κ) env=some ((.c c' κ'),env'))(hw:WC P e c' κ' env' st):WC P e c κ env st:=eo (s:=(.c c κ)) T.h h hw
theorem Rcx{c:Code}{x':Exit}(k:Nat)(h:lj T.t e.n st k (.c c κ) env=some ((.x x' κ'),env'))(hw:WE P e x' κ' env' st):WC P e c κ env st:=eo (s:=(.c c κ)) T.h h hw
theorem Rcl{c:Code}{ops':Array Oper}{l':List Oper}(k:Nat)(h:lj T.t e.n st k (.c c κ) env=some ((.l ops' l' κ'),env'))(hw:WL P e ops' l' env' st λenv' st'=>WE P e .normal κ' env' st'):WC P e c κ env st:=eo (s:=(.c c κ)) T.h h hw
theorem Rxc{x:Exit}{c':Code}(k:Nat)(h:lj T.t e.n st k (.x x κ) env=some ((.c c' κ'),env'))(hw:WC P e c' κ' env' st):WE P e x κ env st:=eo (s:=(.x x κ)) T.h h hw
theorem Rxx{x:Exit}{x':Exit}(k:Nat)(h:lj T.t e.n st k (.x x κ) env=some ((.x x' κ'),env'))(hw:WE P e x' κ' env' st):WE P e x κ env st:=eo (s:=(.x x κ)) T.h h hw
theorem Rxl{x:Exit}{ops':Array Oper}{l':List Oper}(k:Nat)(h:lj T.t e.n st k (.x x κ) env=some ((.l ops' l' κ'),env'))(hw:WL P e ops' l' env' st λenv' st'=>WE P e .normal κ' env' st'):WE P e x κ env st:=eo (s:=(.x x κ)) T.h h hw
theorem Rlc{ops:Array Oper}{l:List Oper}{c':Code}(k:Nat)(h:lj T.t e.n st k (.l ops l κ) env=some ((.c c' κ'),env'))(hw:WC P e c' κ' env' st):WL P e ops l env st (λenv' st'=>WE P e .normal κ env' st'):=eo (s:=(.l ops l κ)) T.h h hw
theorem Rlx{ops:Array Oper}{l:List Oper}{x':Exit}(k:Nat)(h:lj T.t e.n st k (.l ops l κ) env=some ((.x x' κ'),env'))(hw:WE P e x' κ' env' st):WL P e ops l env st (λenv' st'=>WE P e .normal κ env' st'):=eo (s:=(.l ops l κ)) T.h h hw
theorem Rll{ops:Array Oper}{l:List Oper}{ops':Array Oper}{l':List Oper}(k:Nat)(h:lj T.t e.n st k (.l ops l κ) env=some ((.l ops' l' κ'),env'))(hw:WL P e ops' l' env' st λenv' st'=>WE P e .normal κ' env' st'):WL P e ops l env st (λenv' st'=>WE P e .normal κ env' st'):=eo (s:=(.l ops l κ)) T.h h hw
end
open Go.RowKit (Below)
section
variable{P:Program}{e:En}{ops:Array Oper}{rest:List Oper}{env:Env}{st:List AO}{R:Env→List AO→Prop}{κ:Ko}{x y:Code}
theorem Lv{a b:AV}(h:Le a b:=by
 repeat' (first|exact Le.refl _|exact Le.nil|exact Le.u _|exact Le.fs _|exact Les.refl _|exact trivial|refine eP ?_|refine bc ?_|refine Le.fnc ?_ ?_|refine⟨?_,?_⟩)):Le a b:=h
theorem Lw{a b:List AV}(h:Les a b:=by
 repeat' (first|exact Le.refl _|exact Le.nil|exact Le.u _|exact Le.fs _|exact Les.refl _|exact trivial|refine eP ?_|refine bc ?_|refine Le.fnc ?_ ?_|refine⟨?_,?_⟩)):Les a b:=h
theorem Rv{f:Func}{r:AV}(h:Res P f env st r:=by
 first|exact rs1 rfl (bR rfl)|exact rs2 rfl (bR rfl) (bR rfl)|exact d3 rfl|exact rs3 rfl (bR rfl) (bR rfl) (bR rfl)):Res P f env st r:=h
theorem Ci{c:Operand}{t:Bool}{β:Sort _}{a b z:β}(h:(bif t then a else b)=z)(hc:opv env c=some (.d (.v (.bool t))))(h1:a=z→WC P e x κ env st)(h0:b=z→WC P e y κ env st):WC P e (.cond c x y) κ env st:=fq hc (λhh=>h1 (dp h hh)) (λhh=>h0 (dq h hh))
theorem Ix{α β:Type}{E Q:α→List D}{L:List α}{i:Int}{F:α→Option β}{r:β}{T n d:Nat}{bb:Bool}{x ix:Operand}{xr:AV}{kk:IntKind}{ty:TypeId}{pos:String}{after:Array Edge}(h:Option.bind (idx L i) F=some r)(hT:aH P T=some (n,bb))(hE:∀x,E x=Q x)(hx:opv env x=some xr)(hle:Le xr (.d (.sl (L.map E))))(hi:opv env ix=some (.d (.v (.int kk i))))(hd:Nat.ble (d+1) e.n=true)
  (k:∀x,idx L i=some x→F x=some r→WL P e ops rest ((d, .d (.pc (Q x)))::env) st R)(hn:∀x,(Q x).length=n:=by exact λ_=>rfl):WL P e ops (⟨some d, .indexAddr T x ix,ty,pos,after,none⟩::rest) env st R:=by
 obtain⟨z,hz,h⟩:=ae h
 exact WL.qn (aj hT hx hle hi (ai hz) (av hE hz) (hn z)) hd (k z hz h)
theorem FA{a p:Prop}(ha:a)(h:a→p:=by
 intro h
 obtain rfl:=inS h
 exact bm Rv Lv):p:=h ha
theorem FB{a p:Prop}(ha:a)(h:a→p:=by
 intro h
 subst h
 exact bm Rv Lv):p:=h ha
variable{dd:Nat}{ty:TypeId}{pos:String}{after:Array Edge}
theorem Bd{T:TypeId}{x:Operand}{r:AV}{ds:List D}(hx:opv env x=some r)(hk:r.okc=true)(hc:Les r.cells (ds.map .d))(hd:Nat.ble (dd+1) e.n=true)(h:WL P e ops rest ((dd, .d (.pc ds))::env) st R):WL P e ops (⟨some dd, .box T x,ty,pos,after,none⟩::rest) env st R:=WL.s (hZ hx hk hc).does (Wt.none rfl) rfl hd h
theorem Bx{T:TypeId}{x:Operand}{r:AV}(hx:opv env x=some r)(hk:r.okc=true)(hd:Nat.ble (dd+1) e.n=true)(h:WL P e ops rest ((dd, .pt st.length 0)::env) (st++ [.row T r.cells]) R):WL P e ops (⟨some dd, .box T x,ty,pos,after,none⟩::rest) env st R:=WL.s (b_box hx hk).does (Wt.none rfl) rfl hd h
theorem Al{T:TypeId}{vs:List Value}(hz:aM P T=some vs)(hd:Nat.ble (dd+1) e.n=true)(h:WL P e ops rest ((dd, .pt st.length 0)::env) (st++ [.row T (vs.map λv=> .d (.v v))]) R):WL P e ops (⟨some dd, .alloc T,ty,pos,after,none⟩::rest) env st R:=WL.s (sH hz).does (Wt.none rfl) rfl hd h
theorem Tv{a b:List AO}(h:SLe a b:=by
 first|exact SLe.refl _|repeat' (first|exact rfl|exact Le.refl _|exact Le.nil|exact Le.u _|exact Le.fs _|exact Les.refl _|exact trivial|refine eP ?_|refine bc ?_|refine Le.fnc ?_ ?_|refine⟨?_,?_⟩)):SLe a b:=h
theorem Cb{b c:Bool}(h:b=c):D.v (Value.bool b)=D.v (Value.bool c):=by rw[h]
theorem Re{α:Type}{a:α}{l l':List α}(k:l=l'):a::l=a::l':=by rw[k]
theorem Kv{n:Nat}{l:List AO}(h:eT n l=true:=by
 first|exact rfl|repeat' (first|exact rfl|refine au rfl ?_|refine au (rU _ _ _ _ _ _) ?_|refine au (uM _ _ _ _ _ _) ?_|refine au (zC _ _ _ _ _ _ _ rfl) ?_)):eT n l=true:=h
theorem Sb{a b:Env}(h:Sub a b:=by
 repeat' (first|exact Sub.nil _|refine Sub.cons rfl ?_ ?_|exact Le.refl _|exact Le.nil|exact Le.u _|exact Le.fs _|exact Les.refl _|exact trivial|refine eP ?_|refine bc ?_|refine Le.fnc ?_ ?_|refine⟨?_,?_⟩)):Sub a b:=h
section
universe uu
variable{β:Sort uu}{z:β}{n:Nat}{α0 α1 α2 α3 α4 α5 α6 α7 α8 α9 α10 α11 α12 α13 α14 α15 α16 α17 α18 α19 α20 α21 α22 α23 α24 α25 α26 α27 α28 α29 α30 α31 α32 α33 α34 α35:Type}
theorem Jn0(A:Env)(S:List AO){K:Unit→β}{F:(Unit→β)→β}(h:ak K F=z)(h1:∀k:Unit→β,F k=z→WC P e x (.lp (λu v=>k ()=z∧Sub (A) u∧SLe v (S)) κ) env st)(h2:K ()=z→WC P e y κ (A) (S)):WC P e (.seq x y) κ env st:=by
 refine bf _ (h1 K h) ?_
 rintro u v ⟨h,hs,hw⟩
 exact WC.sub hs (WC.weak hw (h2 h))
theorem En0{A:Env}{S:List AO}{k:Unit→β}(h:k ()=z)(h0:Sub (A) env:=by exact Sb)(h1:SLe st (S):=by exact Tv):WE P e .normal (.lp (λu v=>k ()=z∧Sub (A) u∧SLe v (S)) κ) env st:=cw ⟨h,h0,h1⟩
theorem Jn1(A:α0→Env)(S:α0→List AO){K:α0→β}{F:(α0→β)→β}(h:ak K F=z)(h1:∀k:α0→β,F k=z→WC P e x (.lp (λu v=>∃x0,k x0=z∧Sub (A x0) u∧SLe v (S x0)) κ) env st)(h2:∀x0,K x0=z→WC P e y κ (A x0) (S x0)):WC P e (.seq x y) κ env st:=by
 refine bf _ (h1 K h) ?_
 rintro u v ⟨x0,h,hs,hw⟩
 exact WC.sub hs (WC.weak hw (h2 x0 h))
theorem Ln1(A:α0→Env)(S:α0→List AO)(L:Nat→α0→β){N:Nat}{i0:α0}(h:L N i0=z)(hz:∀x0,L 0 x0=z→False)(hs':∀n x0,L (n+1) x0=z→WC P e x (.lp (λu v=>∃y,(∃x0,L y x0=z∧Sub (A x0) u∧SLe v (S x0))∧y<n+1) κ) (A x0) (S x0))(h0:Sub (A i0) env:=by exact Sb)(h1:SLe st (S i0):=by exact Tv):WC P e (.loop x) κ env st:=by
 refine bq (λn u v=>∃x0,L n x0=z∧Sub (A x0) u∧SLe v (S x0)) (λn=>n) N ⟨_,h,h0,h1⟩ ?_
 rintro n u v ⟨x0,h,hs,hw⟩
 rcases n with _|n
 ·exact(hz x0 h).elim
 ·exact WC.sub hs (WC.weak hw (hs' n x0 h))
theorem En1{A:α0→Env}{S:α0→List AO}{k:α0→β}{i0:α0}(h:k i0=z)(h0:Sub (A i0) env:=by exact Sb)(h1:SLe st (S i0):=by exact Tv):WE P e .normal (.lp (λu v=>∃x0,k x0=z∧Sub (A x0) u∧SLe v (S x0)) κ) env st:=cw ⟨_,h,h0,h1⟩
theorem Fn1{A:α0→Env}{S:α0→List AO}{L:Nat→α0→β}{i0:α0}(h:L n i0=z)(h0:Sub (A i0) env:=by exact Sb)(h1:SLe st (S i0):=by exact Tv):WE P e .normal (.lp (λu v=>∃y,(∃x0,L y x0=z∧Sub (A x0) u∧SLe v (S x0))∧y<n+1) κ) env st:=cw ⟨n,⟨_,h,h0,h1⟩,Nat.lt_succ_self n⟩
theorem Jn2(A:α0→α1→Env)(S:α0→α1→List AO){K:α0→α1→β}{F:(α0→α1→β)→β}(h:ak K F=z)(h1:∀k:α0→α1→β,F k=z→WC P e x (.lp (λu v=>∃x0 x1,k x0 x1=z∧Sub (A x0 x1) u∧SLe v (S x0 x1)) κ) env st)(h2:∀x0 x1,K x0 x1=z→WC P e y κ (A x0 x1) (S x0 x1)):WC P e (.seq x y) κ env st:=by
 refine bf _ (h1 K h) ?_
 rintro u v ⟨x0,x1,h,hs,hw⟩
 exact WC.sub hs (WC.weak hw (h2 x0 x1 h))
theorem Ln2(A:α0→α1→Env)(S:α0→α1→List AO)(L:Nat→α0→α1→β){N:Nat}{i0:α0}{i1:α1}(h:L N i0 i1=z)(hz:∀x0 x1,L 0 x0 x1=z→False)(hs':∀n x0 x1,L (n+1) x0 x1=z→WC P e x (.lp (λu v=>∃y,(∃x0 x1,L y x0 x1=z∧Sub (A x0 x1) u∧SLe v (S x0 x1))∧y<n+1) κ) (A x0 x1) (S x0 x1))(h0:Sub (A i0 i1) env:=by exact Sb)(h1:SLe st (S i0 i1):=by exact Tv):WC P e (.loop x) κ env st:=by
 refine bq (λn u v=>∃x0 x1,L n x0 x1=z∧Sub (A x0 x1) u∧SLe v (S x0 x1)) (λn=>n) N ⟨_,_,h,h0,h1⟩ ?_
 rintro n u v ⟨x0,x1,h,hs,hw⟩
 rcases n with _|n
 ·exact(hz x0 x1 h).elim
 ·exact WC.sub hs (WC.weak hw (hs' n x0 x1 h))
theorem En2{A:α0→α1→Env}{S:α0→α1→List AO}{k:α0→α1→β}{i0:α0}{i1:α1}(h:k i0 i1=z)(h0:Sub (A i0 i1) env:=by exact Sb)(h1:SLe st (S i0 i1):=by exact Tv):WE P e .normal (.lp (λu v=>∃x0 x1,k x0 x1=z∧Sub (A x0 x1) u∧SLe v (S x0 x1)) κ) env st:=cw ⟨_,_,h,h0,h1⟩
theorem Fn2{A:α0→α1→Env}{S:α0→α1→List AO}{L:Nat→α0→α1→β}{i0:α0}{i1:α1}(h:L n i0 i1=z)(h0:Sub (A i0 i1) env:=by exact Sb)(h1:SLe st (S i0 i1):=by exact Tv):WE P e .normal (.lp (λu v=>∃y,(∃x0 x1,L y x0 x1=z∧Sub (A x0 x1) u∧SLe v (S x0 x1))∧y<n+1) κ) env st:=cw ⟨n,⟨_,_,h,h0,h1⟩,Nat.lt_succ_self n⟩
theorem Jn3(A:α0→α1→α2→Env)(S:α0→α1→α2→List AO){K:α0→α1→α2→β}{F:(α0→α1→α2→β)→β}(h:ak K F=z)(h1:∀k:α0→α1→α2→β,F k=z→WC P e x (.lp (λu v=>∃x0 x1 x2,k x0 x1 x2=z∧Sub (A x0 x1 x2) u∧SLe v (S x0 x1 x2)) κ) env st)(h2:∀x0 x1 x2,K x0 x1 x2=z→WC P e y κ (A x0 x1 x2) (S x0 x1 x2)):WC P e (.seq x y) κ env st:=by
 refine bf _ (h1 K h) ?_
 rintro u v ⟨x0,x1,x2,h,hs,hw⟩
 exact WC.sub hs (WC.weak hw (h2 x0 x1 x2 h))
theorem Ln3(A:α0→α1→α2→Env)(S:α0→α1→α2→List AO)(L:Nat→α0→α1→α2→β){N:Nat}{i0:α0}{i1:α1}{i2:α2}(h:L N i0 i1 i2=z)(hz:∀x0 x1 x2,L 0 x0 x1 x2=z→False)(hs':∀n x0 x1 x2,L (n+1) x0 x1 x2=z→WC P e x (.lp (λu v=>∃y,(∃x0 x1 x2,L y x0 x1 x2=z∧Sub (A x0 x1 x2) u∧SLe v (S x0 x1 x2))∧y<n+1) κ) (A x0 x1 x2) (S x0 x1 x2))(h0:Sub (A i0 i1 i2) env:=by exact Sb)(h1:SLe st (S i0 i1 i2):=by exact Tv):WC P e (.loop x) κ env st:=by
 refine bq (λn u v=>∃x0 x1 x2,L n x0 x1 x2=z∧Sub (A x0 x1 x2) u∧SLe v (S x0 x1 x2)) (λn=>n) N ⟨_,_,_,h,h0,h1⟩ ?_
 rintro n u v ⟨x0,x1,x2,h,hs,hw⟩
 rcases n with _|n
 ·exact(hz x0 x1 x2 h).elim
 ·exact WC.sub hs (WC.weak hw (hs' n x0 x1 x2 h))
theorem En3{A:α0→α1→α2→Env}{S:α0→α1→α2→List AO}{k:α0→α1→α2→β}{i0:α0}{i1:α1}{i2:α2}(h:k i0 i1 i2=z)(h0:Sub (A i0 i1 i2) env:=by exact Sb)(h1:SLe st (S i0 i1 i2):=by exact Tv):WE P e .normal (.lp (λu v=>∃x0 x1 x2,k x0 x1 x2=z∧Sub (A x0 x1 x2) u∧SLe v (S x0 x1 x2)) κ) env st:=cw ⟨_,_,_,h,h0,h1⟩
theorem Fn3{A:α0→α1→α2→Env}{S:α0→α1→α2→List AO}{L:Nat→α0→α1→α2→β}{i0:α0}{i1:α1}{i2:α2}(h:L n i0 i1 i2=z)(h0:Sub (A i0 i1 i2) env:=by exact Sb)(h1:SLe st (S i0 i1 i2):=by exact Tv):WE P e .normal (.lp (λu v=>∃y,(∃x0 x1 x2,L y x0 x1 x2=z∧Sub (A x0 x1 x2) u∧SLe v (S x0 x1 x2))∧y<n+1) κ) env st:=cw ⟨n,⟨_,_,_,h,h0,h1⟩,Nat.lt_succ_self n⟩
theorem Jn4(A:α0→α1→α2→α3→Env)(S:α0→α1→α2→α3→List AO){K:α0→α1→α2→α3→β}{F:(α0→α1→α2→α3→β)→β}(h:ak K F=z)(h1:∀k:α0→α1→α2→α3→β,F k=z→WC P e x (.lp (λu v=>∃x0 x1 x2 x3,k x0 x1 x2 x3=z∧Sub (A x0 x1 x2 x3) u∧SLe v (S x0 x1 x2 x3)) κ) env st)(h2:∀x0 x1 x2 x3,K x0 x1 x2 x3=z→WC P e y κ (A x0 x1 x2 x3) (S x0 x1 x2 x3)):WC P e (.seq x y) κ env st:=by
 refine bf _ (h1 K h) ?_
 rintro u v ⟨x0,x1,x2,x3,h,hs,hw⟩
 exact WC.sub hs (WC.weak hw (h2 x0 x1 x2 x3 h))
theorem Ln4(A:α0→α1→α2→α3→Env)(S:α0→α1→α2→α3→List AO)(L:Nat→α0→α1→α2→α3→β){N:Nat}{i0:α0}{i1:α1}{i2:α2}{i3:α3}(h:L N i0 i1 i2 i3=z)(hz:∀x0 x1 x2 x3,L 0 x0 x1 x2 x3=z→False)(hs':∀n x0 x1 x2 x3,L (n+1) x0 x1 x2 x3=z→WC P e x (.lp (λu v=>∃y,(∃x0 x1 x2 x3,L y x0 x1 x2 x3=z∧Sub (A x0 x1 x2 x3) u∧SLe v (S x0 x1 x2 x3))∧y<n+1) κ) (A x0 x1 x2 x3) (S x0 x1 x2 x3))(h0:Sub (A i0 i1 i2 i3) env:=by exact Sb)(h1:SLe st (S i0 i1 i2 i3):=by exact Tv):WC P e (.loop x) κ env st:=by
 refine bq (λn u v=>∃x0 x1 x2 x3,L n x0 x1 x2 x3=z∧Sub (A x0 x1 x2 x3) u∧SLe v (S x0 x1 x2 x3)) (λn=>n) N ⟨_,_,_,_,h,h0,h1⟩ ?_
 rintro n u v ⟨x0,x1,x2,x3,h,hs,hw⟩
 rcases n with _|n
 ·exact(hz x0 x1 x2 x3 h).elim
 ·exact WC.sub hs (WC.weak hw (hs' n x0 x1 x2 x3 h))
theorem En4{A:α0→α1→α2→α3→Env}{S:α0→α1→α2→α3→List AO}{k:α0→α1→α2→α3→β}{i0:α0}{i1:α1}{i2:α2}{i3:α3}(h:k i0 i1 i2 i3=z)(h0:Sub (A i0 i1 i2 i3) env:=by exact Sb)(h1:SLe st (S i0 i1 i2 i3):=by exact Tv):WE P e .normal (.lp (λu v=>∃x0 x1 x2 x3,k x0 x1 x2 x3=z∧Sub (A x0 x1 x2 x3) u∧SLe v (S x0 x1 x2 x3)) κ) env st:=cw ⟨_,_,_,_,h,h0,h1⟩
theorem Fn4{A:α0→α1→α2→α3→Env}{S:α0→α1→α2→α3→List AO}{L:Nat→α0→α1→α2→α3→β}{i0:α0}{i1:α1}{i2:α2}{i3:α3}(h:L n i0 i1 i2 i3=z)(h0:Sub (A i0 i1 i2 i3) env:=by exact Sb)(h1:SLe st (S i0 i1 i2 i3):=by exact Tv):WE P e .normal (.lp (λu v=>∃y,(∃x0 x1 x2 x3,L y x0 x1 x2 x3=z∧Sub (A x0 x1 x2 x3) u∧SLe v (S x0 x1 x2 x3))∧y<n+1) κ) env st:=cw ⟨n,⟨_,_,_,_,h,h0,h1⟩,Nat.lt_succ_self n⟩
theorem Jn5(A:α0→α1→α2→α3→α4→Env)(S:α0→α1→α2→α3→α4→List AO){K:α0→α1→α2→α3→α4→β}{F:(α0→α1→α2→α3→α4→β)→β}(h:ak K F=z)(h1:∀k:α0→α1→α2→α3→α4→β,F k=z→WC P e x (.lp (λu v=>∃x0 x1 x2 x3 x4,k x0 x1 x2 x3 x4=z∧Sub (A x0 x1 x2 x3 x4) u∧SLe v (S x0 x1 x2 x3 x4)) κ) env st)(h2:∀x0 x1 x2 x3 x4,K x0 x1 x2 x3 x4=z→WC P e y κ (A x0 x1 x2 x3 x4) (S x0 x1 x2 x3 x4)):WC P e (.seq x y) κ env st:=by
 refine bf _ (h1 K h) ?_
 rintro u v ⟨x0,x1,x2,x3,x4,h,hs,hw⟩
 exact WC.sub hs (WC.weak hw (h2 x0 x1 x2 x3 x4 h))
theorem En5{A:α0→α1→α2→α3→α4→Env}{S:α0→α1→α2→α3→α4→List AO}{k:α0→α1→α2→α3→α4→β}{i0:α0}{i1:α1}{i2:α2}{i3:α3}{i4:α4}(h:k i0 i1 i2 i3 i4=z)(h0:Sub (A i0 i1 i2 i3 i4) env:=by exact Sb)(h1:SLe st (S i0 i1 i2 i3 i4):=by exact Tv):WE P e .normal (.lp (λu v=>∃x0 x1 x2 x3 x4,k x0 x1 x2 x3 x4=z∧Sub (A x0 x1 x2 x3 x4) u∧SLe v (S x0 x1 x2 x3 x4)) κ) env st:=cw ⟨_,_,_,_,_,h,h0,h1⟩
theorem Jn6(A:α0→α1→α2→α3→α4→α5→Env)(S:α0→α1→α2→α3→α4→α5→List AO){K:α0→α1→α2→α3→α4→α5→β}{F:(α0→α1→α2→α3→α4→α5→β)→β}(h:ak K F=z)(h1:∀k:α0→α1→α2→α3→α4→α5→β,F k=z→WC P e x (.lp (λu v=>∃x0 x1 x2 x3 x4 x5,k x0 x1 x2 x3 x4 x5=z∧Sub (A x0 x1 x2 x3 x4 x5) u∧SLe v (S x0 x1 x2 x3 x4 x5)) κ) env st)(h2:∀x0 x1 x2 x3 x4 x5,K x0 x1 x2 x3 x4 x5=z→WC P e y κ (A x0 x1 x2 x3 x4 x5) (S x0 x1 x2 x3 x4 x5)):WC P e (.seq x y) κ env st:=by
 refine bf _ (h1 K h) ?_
 rintro u v ⟨x0,x1,x2,x3,x4,x5,h,hs,hw⟩
 exact WC.sub hs (WC.weak hw (h2 x0 x1 x2 x3 x4 x5 h))
theorem En6{A:α0→α1→α2→α3→α4→α5→Env}{S:α0→α1→α2→α3→α4→α5→List AO}{k:α0→α1→α2→α3→α4→α5→β}{i0:α0}{i1:α1}{i2:α2}{i3:α3}{i4:α4}{i5:α5}(h:k i0 i1 i2 i3 i4 i5=z)(h0:Sub (A i0 i1 i2 i3 i4 i5) env:=by exact Sb)(h1:SLe st (S i0 i1 i2 i3 i4 i5):=by exact Tv):WE P e .normal (.lp (λu v=>∃x0 x1 x2 x3 x4 x5,k x0 x1 x2 x3 x4 x5=z∧Sub (A x0 x1 x2 x3 x4 x5) u∧SLe v (S x0 x1 x2 x3 x4 x5)) κ) env st:=cw ⟨_,_,_,_,_,_,h,h0,h1⟩
theorem Jn7(A:α0→α1→α2→α3→α4→α5→α6→Env)(S:α0→α1→α2→α3→α4→α5→α6→List AO){K:α0→α1→α2→α3→α4→α5→α6→β}{F:(α0→α1→α2→α3→α4→α5→α6→β)→β}(h:ak K F=z)(h1:∀k:α0→α1→α2→α3→α4→α5→α6→β,F k=z→WC P e x (.lp (λu v=>∃x0 x1 x2 x3 x4 x5 x6,k x0 x1 x2 x3 x4 x5 x6=z∧Sub (A x0 x1 x2 x3 x4 x5 x6) u∧SLe v (S x0 x1 x2 x3 x4 x5 x6)) κ) env st)(h2:∀x0 x1 x2 x3 x4 x5 x6,K x0 x1 x2 x3 x4 x5 x6=z→WC P e y κ (A x0 x1 x2 x3 x4 x5 x6) (S x0 x1 x2 x3 x4 x5 x6)):WC P e (.seq x y) κ env st:=by
 refine bf _ (h1 K h) ?_
 rintro u v ⟨x0,x1,x2,x3,x4,x5,x6,h,hs,hw⟩
 exact WC.sub hs (WC.weak hw (h2 x0 x1 x2 x3 x4 x5 x6 h))
theorem Ln7(A:α0→α1→α2→α3→α4→α5→α6→Env)(S:α0→α1→α2→α3→α4→α5→α6→List AO)(L:Nat→α0→α1→α2→α3→α4→α5→α6→β){N:Nat}{i0:α0}{i1:α1}{i2:α2}{i3:α3}{i4:α4}{i5:α5}{i6:α6}(h:L N i0 i1 i2 i3 i4 i5 i6=z)(hz:∀x0 x1 x2 x3 x4 x5 x6,L 0 x0 x1 x2 x3 x4 x5 x6=z→False)(hs':∀n x0 x1 x2 x3 x4 x5 x6,L (n+1) x0 x1 x2 x3 x4 x5 x6=z→WC P e x (.lp (λu v=>∃y,(∃x0 x1 x2 x3 x4 x5 x6,L y x0 x1 x2 x3 x4 x5 x6=z∧Sub (A x0 x1 x2 x3 x4 x5 x6) u∧SLe v (S x0 x1 x2 x3 x4 x5 x6))∧y<n+1) κ) (A x0 x1 x2 x3 x4 x5 x6) (S x0 x1 x2 x3 x4 x5 x6))(h0:Sub (A i0 i1 i2 i3 i4 i5 i6) env:=by exact Sb)(h1:SLe st (S i0 i1 i2 i3 i4 i5 i6):=by exact Tv):WC P e (.loop x) κ env st:=by
 refine bq (λn u v=>∃x0 x1 x2 x3 x4 x5 x6,L n x0 x1 x2 x3 x4 x5 x6=z∧Sub (A x0 x1 x2 x3 x4 x5 x6) u∧SLe v (S x0 x1 x2 x3 x4 x5 x6)) (λn=>n) N ⟨_,_,_,_,_,_,_,h,h0,h1⟩ ?_
 rintro n u v ⟨x0,x1,x2,x3,x4,x5,x6,h,hs,hw⟩
 rcases n with _|n
 ·exact(hz x0 x1 x2 x3 x4 x5 x6 h).elim
 ·exact WC.sub hs (WC.weak hw (hs' n x0 x1 x2 x3 x4 x5 x6 h))
theorem Fn7{A:α0→α1→α2→α3→α4→α5→α6→Env}{S:α0→α1→α2→α3→α4→α5→α6→List AO}{L:Nat→α0→α1→α2→α3→α4→α5→α6→β}{i0:α0}{i1:α1}{i2:α2}{i3:α3}{i4:α4}{i5:α5}{i6:α6}(h:L n i0 i1 i2 i3 i4 i5 i6=z)(h0:Sub (A i0 i1 i2 i3 i4 i5 i6) env:=by exact Sb)(h1:SLe st (S i0 i1 i2 i3 i4 i5 i6):=by exact Tv):WE P e .normal (.lp (λu v=>∃y,(∃x0 x1 x2 x3 x4 x5 x6,L y x0 x1 x2 x3 x4 x5 x6=z∧Sub (A x0 x1 x2 x3 x4 x5 x6) u∧SLe v (S x0 x1 x2 x3 x4 x5 x6))∧y<n+1) κ) env st:=cw ⟨n,⟨_,_,_,_,_,_,_,h,h0,h1⟩,Nat.lt_succ_self n⟩
theorem Jn8(A:α0→α1→α2→α3→α4→α5→α6→α7→Env)(S:α0→α1→α2→α3→α4→α5→α6→α7→List AO){K:α0→α1→α2→α3→α4→α5→α6→α7→β}{F:(α0→α1→α2→α3→α4→α5→α6→α7→β)→β}(h:ak K F=z)(h1:∀k:α0→α1→α2→α3→α4→α5→α6→α7→β,F k=z→WC P e x (.lp (λu v=>∃x0 x1 x2 x3 x4 x5 x6 x7,k x0 x1 x2 x3 x4 x5 x6 x7=z∧Sub (A x0 x1 x2 x3 x4 x5 x6 x7) u∧SLe v (S x0 x1 x2 x3 x4 x5 x6 x7)) κ) env st)(h2:∀x0 x1 x2 x3 x4 x5 x6 x7,K x0 x1 x2 x3 x4 x5 x6 x7=z→WC P e y κ (A x0 x1 x2 x3 x4 x5 x6 x7) (S x0 x1 x2 x3 x4 x5 x6 x7)):WC P e (.seq x y) κ env st:=by
 refine bf _ (h1 K h) ?_
 rintro u v ⟨x0,x1,x2,x3,x4,x5,x6,x7,h,hs,hw⟩
 exact WC.sub hs (WC.weak hw (h2 x0 x1 x2 x3 x4 x5 x6 x7 h))
theorem Ln8(A:α0→α1→α2→α3→α4→α5→α6→α7→Env)(S:α0→α1→α2→α3→α4→α5→α6→α7→List AO)(L:Nat→α0→α1→α2→α3→α4→α5→α6→α7→β){N:Nat}{i0:α0}{i1:α1}{i2:α2}{i3:α3}{i4:α4}{i5:α5}{i6:α6}{i7:α7}(h:L N i0 i1 i2 i3 i4 i5 i6 i7=z)(hz:∀x0 x1 x2 x3 x4 x5 x6 x7,L 0 x0 x1 x2 x3 x4 x5 x6 x7=z→False)(hs':∀n x0 x1 x2 x3 x4 x5 x6 x7,L (n+1) x0 x1 x2 x3 x4 x5 x6 x7=z→WC P e x (.lp (λu v=>∃y,(∃x0 x1 x2 x3 x4 x5 x6 x7,L y x0 x1 x2 x3 x4 x5 x6 x7=z∧Sub (A x0 x1 x2 x3 x4 x5 x6 x7) u∧SLe v (S x0 x1 x2 x3 x4 x5 x6 x7))∧y<n+1) κ) (A x0 x1 x2 x3 x4 x5 x6 x7) (S x0 x1 x2 x3 x4 x5 x6 x7))(h0:Sub (A i0 i1 i2 i3 i4 i5 i6 i7) env:=by exact Sb)(h1:SLe st (S i0 i1 i2 i3 i4 i5 i6 i7):=by exact Tv):WC P e (.loop x) κ env st:=by
 refine bq (λn u v=>∃x0 x1 x2 x3 x4 x5 x6 x7,L n x0 x1 x2 x3 x4 x5 x6 x7=z∧Sub (A x0 x1 x2 x3 x4 x5 x6 x7) u∧SLe v (S x0 x1 x2 x3 x4 x5 x6 x7)) (λn=>n) N ⟨_,_,_,_,_,_,_,_,h,h0,h1⟩ ?_
 rintro n u v ⟨x0,x1,x2,x3,x4,x5,x6,x7,h,hs,hw⟩
 rcases n with _|n
 ·exact(hz x0 x1 x2 x3 x4 x5 x6 x7 h).elim
 ·exact WC.sub hs (WC.weak hw (hs' n x0 x1 x2 x3 x4 x5 x6 x7 h))
theorem Jn10(A:α0→α1→α2→α3→α4→α5→α6→α7→α8→α9→Env)(S:α0→α1→α2→α3→α4→α5→α6→α7→α8→α9→List AO){K:α0→α1→α2→α3→α4→α5→α6→α7→α8→α9→β}{F:(α0→α1→α2→α3→α4→α5→α6→α7→α8→α9→β)→β}(h:ak K F=z)(h1:∀k:α0→α1→α2→α3→α4→α5→α6→α7→α8→α9→β,F k=z→WC P e x (.lp (λu v=>∃x0 x1 x2 x3 x4 x5 x6 x7 x8 x9,k x0 x1 x2 x3 x4 x5 x6 x7 x8 x9=z∧Sub (A x0 x1 x2 x3 x4 x5 x6 x7 x8 x9) u∧SLe v (S x0 x1 x2 x3 x4 x5 x6 x7 x8 x9)) κ) env st)(h2:∀x0 x1 x2 x3 x4 x5 x6 x7 x8 x9,K x0 x1 x2 x3 x4 x5 x6 x7 x8 x9=z→WC P e y κ (A x0 x1 x2 x3 x4 x5 x6 x7 x8 x9) (S x0 x1 x2 x3 x4 x5 x6 x7 x8 x9)):WC P e (.seq x y) κ env st:=by
 refine bf _ (h1 K h) ?_
 rintro u v ⟨x0,x1,x2,x3,x4,x5,x6,x7,x8,x9,h,hs,hw⟩
 exact WC.sub hs (WC.weak hw (h2 x0 x1 x2 x3 x4 x5 x6 x7 x8 x9 h))
theorem Jn13(A:α0→α1→α2→α3→α4→α5→α6→α7→α8→α9→α10→α11→α12→Env)(S:α0→α1→α2→α3→α4→α5→α6→α7→α8→α9→α10→α11→α12→List AO){K:α0→α1→α2→α3→α4→α5→α6→α7→α8→α9→α10→α11→α12→β}{F:(α0→α1→α2→α3→α4→α5→α6→α7→α8→α9→α10→α11→α12→β)→β}(h:ak K F=z)(h1:∀k:α0→α1→α2→α3→α4→α5→α6→α7→α8→α9→α10→α11→α12→β,F k=z→WC P e x (.lp (λu v=>∃x0 x1 x2 x3 x4 x5 x6 x7 x8 x9 x10 x11 x12,k x0 x1 x2 x3 x4 x5 x6 x7 x8 x9 x10 x11 x12=z∧Sub (A x0 x1 x2 x3 x4 x5 x6 x7 x8 x9 x10 x11 x12) u∧SLe v (S x0 x1 x2 x3 x4 x5 x6 x7 x8 x9 x10 x11 x12)) κ) env st)(h2:∀x0 x1 x2 x3 x4 x5 x6 x7 x8 x9 x10 x11 x12,K x0 x1 x2 x3 x4 x5 x6 x7 x8 x9 x10 x11 x12=z→WC P e y κ (A x0 x1 x2 x3 x4 x5 x6 x7 x8 x9 x10 x11 x12) (S x0 x1 x2 x3 x4 x5 x6 x7 x8 x9 x10 x11 x12)):WC P e (.seq x y) κ env st:=by
 refine bf _ (h1 K h) ?_
 rintro u v ⟨x0,x1,x2,x3,x4,x5,x6,x7,x8,x9,x10,x11,x12,h,hs,hw⟩
 exact WC.sub hs (WC.weak hw (h2 x0 x1 x2 x3 x4 x5 x6 x7 x8 x9 x10 x11 x12 h))
theorem Ln14(A:α0→α1→α2→α3→α4→α5→α6→α7→α8→α9→α10→α11→α12→α13→Env)(S:α0→α1→α2→α3→α4→α5→α6→α7→α8→α9→α10→α11→α12→α13→List AO)(L:Nat→α0→α1→α2→α3→α4→α5→α6→α7→α8→α9→α10→α11→α12→α13→β){N:Nat}{i0:α0}{i1:α1}{i2:α2}{i3:α3}{i4:α4}{i5:α5}{i6:α6}{i7:α7}{i8:α8}{i9:α9}{i10:α10}{i11:α11}{i12:α12}{i13:α13}(h:L N i0 i1 i2 i3 i4 i5 i6 i7 i8 i9 i10 i11 i12 i13=z)(hz:∀x0 x1 x2 x3 x4 x5 x6 x7 x8 x9 x10 x11 x12 x13,L 0 x0 x1 x2 x3 x4 x5 x6 x7 x8 x9 x10 x11 x12 x13=z→False)(hs':∀n x0 x1 x2 x3 x4 x5 x6 x7 x8 x9 x10 x11 x12 x13,L (n+1) x0 x1 x2 x3 x4 x5 x6 x7 x8 x9 x10 x11 x12 x13=z→WC P e x (.lp (λu v=>∃y,(∃x0 x1 x2 x3 x4 x5 x6 x7 x8 x9 x10 x11 x12 x13,L y x0 x1 x2 x3 x4 x5 x6 x7 x8 x9 x10 x11 x12 x13=z∧Sub (A x0 x1 x2 x3 x4 x5 x6 x7 x8 x9 x10 x11 x12 x13) u∧SLe v (S x0 x1 x2 x3 x4 x5 x6 x7 x8 x9 x10 x11 x12 x13))∧y<n+1) κ) (A x0 x1 x2 x3 x4 x5 x6 x7 x8 x9 x10 x11 x12 x13) (S x0 x1 x2 x3 x4 x5 x6 x7 x8 x9 x10 x11 x12 x13))(h0:Sub (A i0 i1 i2 i3 i4 i5 i6 i7 i8 i9 i10 i11 i12 i13) env:=by exact Sb)(h1:SLe st (S i0 i1 i2 i3 i4 i5 i6 i7 i8 i9 i10 i11 i12 i13):=by exact Tv):WC P e (.loop x) κ env st:=by
 refine bq (λn u v=>∃x0 x1 x2 x3 x4 x5 x6 x7 x8 x9 x10 x11 x12 x13,L n x0 x1 x2 x3 x4 x5 x6 x7 x8 x9 x10 x11 x12 x13=z∧Sub (A x0 x1 x2 x3 x4 x5 x6 x7 x8 x9 x10 x11 x12 x13) u∧SLe v (S x0 x1 x2 x3 x4 x5 x6 x7 x8 x9 x10 x11 x12 x13)) (λn=>n) N ⟨_,_,_,_,_,_,_,_,_,_,_,_,_,_,h,h0,h1⟩ ?_
 rintro n u v ⟨x0,x1,x2,x3,x4,x5,x6,x7,x8,x9,x10,x11,x12,x13,h,hs,hw⟩
 rcases n with _|n
 ·exact(hz x0 x1 x2 x3 x4 x5 x6 x7 x8 x9 x10 x11 x12 x13 h).elim
 ·exact WC.sub hs (WC.weak hw (hs' n x0 x1 x2 x3 x4 x5 x6 x7 x8 x9 x10 x11 x12 x13 h))
end
theorem RO{id:Nat}{l:List Oper}(rs:List AV)(tc:List (List Nat))(es:List Nat)(L:List (List AO))(plan:List (List Nat×List Nat×List Nat))(hm:P.follows .mixedOrders=true)(hok:la l tc es plan=true)(hrs:Nat.beq rs.length l.length=true)(hes:es.all (λy=>Nat.blt y l.length)=true)
  (hobs:Obs P e l rs env (λc=>List.getD (st::L) c []) es 0 l plan)(h:WE P e .normal κ (FL env (λk=>Nat.blt k l.length) (bX l rs 0)) (List.getD (st::L) es.length []))(hnf:bO l=true:=by kernel_rfl):WC P e (.region id l.toArray true) κ env st:=iD rs tc es _ plan hm hok hrs hes rfl hobs h hnf
def zO(x:Nat):List Nat→List Nat
 |[]=> [x]
 |y::l=>bif Nat.beq x y then y::l else y::zO x l
def tcF(l:List Oper):List (List Nat):=l.foldl (λacc o=>acc++ [o.after.toList.foldl (λr e=>bif Region.binds .any e then(acc.getD e.on []).foldl (λr x=>zO x r) (zO e.on r) else r) []]) []
theorem RT{id:Nat}{l:List Oper}(rs:List AV)(es:List Nat)(L:List (List AO))(plan:List (List Nat×List Nat×List Nat))(hm:P.follows .mixedOrders=true)(hok:la l (tcF l) es plan=true)(hrs:Nat.beq rs.length l.length=true)(hes:es.all (λy=>Nat.blt y l.length)=true)
  (hobs:Obs P e l rs env (λc=>List.getD (st::L) c []) es 0 l plan)(h:WE P e .normal κ (FL env (λk=>Nat.blt k l.length) (bX l rs 0)) (List.getD (st::L) es.length []))(hnf:bO l=true:=by kernel_rfl):WC P e (.region id l.toArray true) κ env st:=RO rs (tcF l) es L plan hm hok hrs hes hobs h hnf
theorem O1 [T:Tys P]{l:List Oper}{rs:List AV}{base:Env}{sts:Nat→List AO}{k d c:Nat}{o:Oper}{pk bk:List Nat}{up:Bool}{r:AV}(hd:o.dst=some d)(h:∀F:Env,kS T.t e.n l.toArray (sts c) (fM l rs base pk bk++F) o=some ((d,r)::(fM l rs base pk bk++F)))(hr:rs[k]? =some r)(hu:up=false):ObC P e l rs base sts k o pk bk up [c]:=
 ⟨λF=>jy T.h (h F) (ib hd hr (by rw[hu];rfl)),trivial⟩
theorem O2 [T:Tys P]{l:List Oper}{rs:List AV}{base:Env}{sts:Nat→List AO}{k d c c':Nat}{o:Oper}{pk bk:List Nat}{r:AV}(hd:o.dst=some d)(h:∀F:Env,kS T.t e.n l.toArray (sts c) (fM l rs base pk bk++F) o=some ((d,r)::(fM l rs base pk bk++F)))(hr:rs[k]? =some r)(hu:c'=c):Ob P e l rs base sts k o pk bk c c':=
 λF=>jy T.h (h F) (ib hd hr (by rw[hu]))
def wK{α:Type}:List α→Option (List α)
 |[]=>some []
 |a::l=>match wK l with
  |some l'=>some (a::l')
  |none=>none
theorem rP{α:Type}:∀{l l':List α},wK l=some l'→l=l'
 |[],l',h=>inS h
 |a::l,l',h=>by
  dsimp only[wK] at h
  split at h
  ·rename_i hl;rw[rP hl];exact inS h
  ·cases h
def zw:AO→Option AO
 | .row T cs=>match wK cs with
  |some c=>some (.row T c)
  |none=>none
 |o=>some o
theorem wJ{o o':AO}(h:zw o=some o'):o=o':=by
 cases o with
 |row T cs=>
  dsimp only[zw] at h
  split at h
  ·rename_i hl;rw[rP hl];exact inS h
  ·cases h
 |_=>exact inS h
def wI:List AO→Option (List AO)
 |[]=>some []
 |a::l=>match zw a,wI l with
  |some a',some l'=>some (a'::l')
  |_,_=>none
theorem rO:∀{l l':List AO},wI l=some l'→l=l'
 |[],l',h=>inS h
 |a::l,l',h=>by
  dsimp only[wI] at h
  split at h
  ·rename_i ha hl;rw[wJ ha,rO hl];exact inS h
  ·cases h
theorem St{st':List AO}(h:wI st=some st')(k:WL P e ops rest env st' R):WL P e ops rest env st R:=WL.st (rO h) k
end
section
variable{P:Program}{e:En}{l:List Oper}{rs:List AV}{base:Env}{sts:List Bool→List AO→Prop}{es:List Nat}
end
theorem Y1{a0 b:Prop}(k:b)(ha0:a0:=by exact O1 rfl (λ_=>rfl) rfl rfl):a0∧b:=⟨ha0,k⟩
theorem Y2{a0 a1 b:Prop}(k:b)(ha0:a0:=by exact O1 rfl (λ_=>rfl) rfl rfl)(ha1:a1:=by exact O1 rfl (λ_=>rfl) rfl rfl):a0∧a1∧b:=⟨ha0,ha1,k⟩
theorem Y3{a0 a1 a2 b:Prop}(k:b)(ha0:a0:=by exact O1 rfl (λ_=>rfl) rfl rfl)(ha1:a1:=by exact O1 rfl (λ_=>rfl) rfl rfl)(ha2:a2:=by exact O1 rfl (λ_=>rfl) rfl rfl):a0∧a1∧a2∧b:=⟨ha0,ha1,ha2,k⟩
theorem Y4{a0 a1 a2 a3 b:Prop}(k:b)(ha0:a0:=by exact O1 rfl (λ_=>rfl) rfl rfl)(ha1:a1:=by exact O1 rfl (λ_=>rfl) rfl rfl)(ha2:a2:=by exact O1 rfl (λ_=>rfl) rfl rfl)(ha3:a3:=by exact O1 rfl (λ_=>rfl) rfl rfl):a0∧a1∧a2∧a3∧b:=⟨ha0,ha1,ha2,ha3,k⟩
theorem Y5{a0 a1 a2 a3 a4 b:Prop}(k:b)(ha0:a0:=by exact O1 rfl (λ_=>rfl) rfl rfl)(ha1:a1:=by exact O1 rfl (λ_=>rfl) rfl rfl)(ha2:a2:=by exact O1 rfl (λ_=>rfl) rfl rfl)(ha3:a3:=by exact O1 rfl (λ_=>rfl) rfl rfl)(ha4:a4:=by exact O1 rfl (λ_=>rfl) rfl rfl):a0∧a1∧a2∧a3∧a4∧b:=⟨ha0,ha1,ha2,ha3,ha4,k⟩
theorem Y8{a0 a1 a2 a3 a4 a5 a6 a7 b:Prop}(k:b)(ha0:a0:=by exact O1 rfl (λ_=>rfl) rfl rfl)(ha1:a1:=by exact O1 rfl (λ_=>rfl) rfl rfl)(ha2:a2:=by exact O1 rfl (λ_=>rfl) rfl rfl)(ha3:a3:=by exact O1 rfl (λ_=>rfl) rfl rfl)(ha4:a4:=by exact O1 rfl (λ_=>rfl) rfl rfl)(ha5:a5:=by exact O1 rfl (λ_=>rfl) rfl rfl)(ha6:a6:=by exact O1 rfl (λ_=>rfl) rfl rfl)(ha7:a7:=by exact O1 rfl (λ_=>rfl) rfl rfl):a0∧a1∧a2∧a3∧a4∧a5∧a6∧a7∧b:=⟨ha0,ha1,ha2,ha3,ha4,ha5,ha6,ha7,k⟩
theorem Y9{a0 a1 a2 a3 a4 a5 a6 a7 a8 b:Prop}(k:b)(ha0:a0:=by exact O1 rfl (λ_=>rfl) rfl rfl)(ha1:a1:=by exact O1 rfl (λ_=>rfl) rfl rfl)(ha2:a2:=by exact O1 rfl (λ_=>rfl) rfl rfl)(ha3:a3:=by exact O1 rfl (λ_=>rfl) rfl rfl)(ha4:a4:=by exact O1 rfl (λ_=>rfl) rfl rfl)(ha5:a5:=by exact O1 rfl (λ_=>rfl) rfl rfl)(ha6:a6:=by exact O1 rfl (λ_=>rfl) rfl rfl)(ha7:a7:=by exact O1 rfl (λ_=>rfl) rfl rfl)(ha8:a8:=by exact O1 rfl (λ_=>rfl) rfl rfl):a0∧a1∧a2∧a3∧a4∧a5∧a6∧a7∧a8∧b:=⟨ha0,ha1,ha2,ha3,ha4,ha5,ha6,ha7,ha8,k⟩
theorem X2a{a0 a1 b:Prop}(k:b)(h0:a0:=by exact O2 rfl (λ_=>rfl) rfl rfl)(h1:a1:=by exact O2 rfl (λ_=>rfl) rfl rfl):(a0∧a1∧True)∧b:=⟨⟨h0,h1,trivial⟩,k⟩
theorem X2b{a00 a01 a10 a11 b:Prop}(k:b)(ha00:a00:=by exact O2 rfl (λ_=>rfl) rfl rfl)(ha01:a01:=by exact O2 rfl (λ_=>rfl) rfl rfl)(ha10:a10:=by exact O2 rfl (λ_=>rfl) rfl rfl)(ha11:a11:=by exact O2 rfl (λ_=>rfl) rfl rfl):(a00∧a01∧True)∧(a10∧a11∧True)∧b:=⟨⟨ha00,ha01,trivial⟩,⟨ha10,ha11,trivial⟩,k⟩
theorem X3b{a00 a01 a02 a10 a11 a12 b:Prop}(k:b)(ha00:a00:=by exact O2 rfl (λ_=>rfl) rfl rfl)(ha01:a01:=by exact O2 rfl (λ_=>rfl) rfl rfl)(ha02:a02:=by exact O2 rfl (λ_=>rfl) rfl rfl)(ha10:a10:=by exact O2 rfl (λ_=>rfl) rfl rfl)(ha11:a11:=by exact O2 rfl (λ_=>rfl) rfl rfl)(ha12:a12:=by exact O2 rfl (λ_=>rfl) rfl rfl):(a00∧a01∧a02∧True)∧(a10∧a11∧a12∧True)∧b:=⟨⟨ha00,ha01,ha02,trivial⟩,⟨ha10,ha11,ha12,trivial⟩,k⟩
theorem rc{P:Program}{e:En}[T:Tys P]{l:List Oper}{rs:List AV}{base:Env}{sts:Nat→List AO}{k d c c':Nat}{o:Oper}{pk bk:List Nat}{a b:Bool}(hb:a=b)(h:∀F:Env,jC T.t e.n l.toArray (sts c) 1 [o] (fM l rs base pk bk++F)=some ([],(d, .d (.v (.bool a)))::(fM l rs base pk bk++F)):=by exact λ_=>rfl)(hd:o.dst=some d:=by exact rfl)(hr:rs[k]? =some (.d (.v (.bool b))):=by exact rfl)(hu:sts c=sts c':=by exact rfl):Ob P e l rs base sts k o pk bk c c':=
 λF=>Rl 1 (h F) (WL.cast d (by simp[aW]) (AA (Cb hb)) (vV hd hr hu))
theorem zo{a b:Prop}(h:a)(k:b):(a∧True)∧b:=⟨⟨h,trivial⟩,k⟩
abbrev p00:List Nat×List Nat×List Nat:=([],[],[0])
abbrev p01(y0:Nat):List Nat×List Nat×List Nat:=([],[y0],[0])
abbrev q01(y0 z:Nat):List Nat×List Nat×List Nat:=([],[y0],[z])
abbrev p10(x0:Nat):List Nat×List Nat×List Nat:=([x0],[],[0])
abbrev q10(x0 z:Nat):List Nat×List Nat×List Nat:=([x0],[],[z])
abbrev p11(x0 y0:Nat):List Nat×List Nat×List Nat:=([x0],[y0],[0])
abbrev p20(x0 x1:Nat):List Nat×List Nat×List Nat:=([x0,x1],[],[0])
abbrev q20(x0 x1 z:Nat):List Nat×List Nat×List Nat:=([x0,x1],[],[z])
abbrev p30(x0 x1 x2:Nat):List Nat×List Nat×List Nat:=([x0,x1,x2],[],[0])
abbrev u01(y0:Nat):List Nat×List Nat×List Nat:=([],[y0],[0,1])
abbrev u10(x0:Nat):List Nat×List Nat×List Nat:=([x0],[],[0,1])
abbrev v10(x0:Nat):List Nat×List Nat×List Nat:=([x0],[],[1,2])
theorem Z6{α β γ δ ε ζ:Type}{a:α}{b:β}{c:γ}{d:δ}{e:ε}{f:ζ}:a=a∧b=b∧c=c∧d=d∧e=e∧f=f:=⟨rfl,rfl,rfl,rfl,rfl,rfl⟩
theorem Z2{α β:Type}{a:α}{b:β}:a=a∧b=b:=⟨rfl,rfl⟩
theorem Z4{α β γ δ:Type}{a:α}{b:β}{c:γ}{d:δ}:a=a∧b=b∧c=c∧d=d:=⟨rfl,rfl,rfl,rfl⟩
theorem Z3{α β γ:Type}{a:α}{b:β}{c:γ}:a=a∧b=b∧c=c:=⟨rfl,rfl,rfl⟩
theorem wF{P:Program}{e:En}{ops:Array Oper}{rest:List Oper}{env:Env}{st:List AO}{R:Env→List AO→Prop}{o:Oper}{d:Nat}{f:FuncId}{c:Call}{x:Operand}{first caps asz:List AV}{ds:List D}{y:D}(a:o.op= .call c∧c.callee= .value x∧opv env x=some (.fn (.func f) first caps)∧bU env c.args.toList=some asz)(hc:Pu P f ds y)(hl:Les (first++asz++caps) (ds.map .d))
  (b:o.guard=none∧o.dst=some d∧Nat.ble (d+1) e.n=true)(h:WL P e ops rest ((d, .d y)::env) st R):WL P e ops (o::rest) env st R:=WL.fn a.1 a.2.1 a.2.2.1 a.2.2.2 hc hl (Wt.none b.1) b.2.1 b.2.2 h
theorem sS{P:Program}{e:En}{ops:Array Oper}{rest:List Oper}{env:Env}{st:List AO}{R:Env→List AO→Prop}{T:TypeId}{x y:Operand}{id off n:Nat}{T':TypeId}{cs:List AV}{r:AV}{rs:List AV}{ty:TypeId}{pos:String}{after:Array Edge}(a:opv env x=some (.pt id off)∧st[id]? =some (.row T' cs)∧opv env y=some r∧r.okc=true∧r.cells=rs∧rs.all AV.ok1=true)
  (hn:bi P T=some n)(b:rs.length=n∧Nat.ble (off+n) cs.length=true)(h:WL P e ops rest env (st.set id (.row T' (cs.take off++rs++cs.drop (off+n)))) R):WL P e ops (⟨none, .store T x y,ty,pos,after,none⟩::rest) env st R:=
 WL.s0 (xG a.1 a.2.1 a.2.2.1 a.2.2.2.1 a.2.2.2.2.1 a.2.2.2.2.2 hn b.1 b.2) (Wt.none rfl) rfl h
section
variable{P:Program}{e:En}{ops:Array Oper}{l:List Oper}{st:List AO}{env env0 env1:Env}{R:Env→List AO→Prop}
theorem Nn{t d:Nat}{b z:Bool}(n:Nat)(h1:env1=env1.take n++((t, .d (.v (.bool b)))::env0):=by exact rfl)(h2:gZ (env1.take n) env0=true:=by exact rfl)(h3:Env.get (env1.take n) d=some (.d (.v (.bool z))):=by exact rfl):WL P e ops [] env1 st (λenv' st'=>st'=st∧GrpJ env0 t b d z env'):=WL.nil ⟨rfl,env1.take n,h1,h2,h3⟩
theorem Rn [T:Tys P]{t d:Nat}{b z:Bool}(k n:Nat)(h:jC T.t e.n ops st k l env=some ([],env1):=by exact rfl)(h1:env1=env1.take n++((t, .d (.v (.bool b)))::env0):=by exact rfl)(h2:gZ (env1.take n) env0=true:=by exact rfl)(h3:Env.get (env1.take n) d=some (.d (.v (.bool z))):=by exact rfl):WL P e ops l env st (λenv' st'=>st'=st∧GrpJ env0 t b d z env'):=Rl k h (Nn n h1 h2 h3)
theorem On [T:Tys P]{t d:Nat}{b z z':Bool}(k n:Nat)(hz:some z'=some z)(h:jC T.t e.n ops st k l env=some ([],env1):=by exact rfl)(h1:env1=env1.take n++((t, .d (.v (.bool b)))::env0):=by exact rfl)(h2:gZ (env1.take n) env0=true:=by exact rfl)(h3:Env.get (env1.take n) d=some (.d (.v (.bool z'))):=by exact rfl):WL P e ops l env st (λenv' st'=>st'=st∧GrpJ env0 t b d z env'):=Rn k n h h1 h2 (h3.trans (by rw[inS hz]))
theorem AG [T:Tys P]{env2:Env}(k t d a n:Nat){x y:Bool}(hr:WL P e ops (l.drop k) ((d, .d (.v (.bool (x&&y))))::env) st R)(hx:env.get t=some (.d (.v (.bool x))):=by exact rfl)(h:jC T.t e.n ops st a (l.take k) ((t, .d (.v (.bool true)))::env)=some ([],env1):=by exact rfl)(h1:env1=env1.take n++((t, .d (.v (.bool true)))::env):=by exact rfl)(h2:gZ (env1.take n) env=true:=by exact rfl)(h3:Env.get (env1.take n) d=some (.d (.v (.bool y))):=by exact rfl)
  (g:jC T.t e.n ops st a (l.take k) ((t, .d (.v (.bool false)))::env)=some ([],env2):=by exact rfl)(g1:env2=env2.take n++((t, .d (.v (.bool false)))::env):=by exact rfl)(g2:gZ (env2.take n) env=true:=by exact rfl)(g3:Env.get (env2.take n) d=some (.d (.v (.bool false))):=by exact rfl):WL P e ops l env st R:=WL.and k hx (λ_=>Rn a n h h1 h2 h3) (Rn a n g g1 g2 g3) hr
theorem OG [T:Tys P]{env2:Env}(k t d a n:Nat){x y:Bool}(hr:WL P e ops (l.drop k) ((d, .d (.v (.bool (x||y))))::env) st R)(hx:env.get t=some (.d (.v (.bool x))):=by exact rfl)(h:jC T.t e.n ops st a (l.take k) ((t, .d (.v (.bool false)))::env)=some ([],env1):=by exact rfl)(h1:env1=env1.take n++((t, .d (.v (.bool false)))::env):=by exact rfl)(h2:gZ (env1.take n) env=true:=by exact rfl)(h3:Env.get (env1.take n) d=some (.d (.v (.bool y))):=by exact rfl)
  (g:jC T.t e.n ops st a (l.take k) ((t, .d (.v (.bool true)))::env)=some ([],env2):=by exact rfl)(g1:env2=env2.take n++((t, .d (.v (.bool true)))::env):=by exact rfl)(g2:gZ (env2.take n) env=true:=by exact rfl)(g3:Env.get (env2.take n) d=some (.d (.v (.bool true))):=by exact rfl):WL P e ops l env st R:=WL.or k hx (λ_=>Rn a n h h1 h2 h3) (Rn a n g g1 g2 g3) hr
theorem Gg(k t d:Nat)(z:Bool){x:Bool}{β:Type}{a b w:β}(hb:(bif x then a else b)=w)(h1:a=w→WL P e ops (l.take k) ((t, .d (.v (.bool true)))::env) st λenv' st'=>st'=st∧GrpJ env t true d z env')(h0:b=w→WL P e ops (l.take k) ((t, .d (.v (.bool false)))::env) st λenv' st'=>st'=st∧GrpJ env t false d z env')
  (hr:WL P e ops (l.drop k) ((d, .d (.v (.bool z)))::env) st R)(hx:env.get t=some (.d (.v (.bool x))):=by exact rfl):WL P e ops l env st R:=WL.grp k hx (λhh=>h1 (dp hb hh)) (λhh=>h0 (dq hb hh)) hr
end
theorem fI{P:Program}{f:FuncId}{fn:Func}{c:Code}{asz:List D}{x:D}{n:Nat}(hf:P.funcs[f]? =some fn)(h:∀φ w,WC P ⟨[],φ,w,n,none,none⟩ c (.fin fn (λr' st'=>r'= .d x∧st'=[])) (fE 0 (asz.map .d)) [])(h1:(fn.name== "runtime.NumGoroutine")=false:=by kernel_rfl)
  (h2:fn.body=some c:=by exact rfl)(h3:fn.ntmps=n:=by exact rfl)(h4:Nat.ble (asz.map AV.d).length n=true:=by exact rfl):Pu P f asz x:=u7 hf h1 h2 h3 h4 h
theorem cI{P:Program}{f:FuncId}{fn:Func}{c:Code}{asz:List AV}{st:List AO}{Q:AV→List AO→Prop}{n:Nat}(hf:P.funcs[f]? =some fn)(h:∀m φ w,m.length=st.length→WC P ⟨m,φ,w,n,none,none⟩ c (.fin fn Q) (fE 0 asz) st)(h1:(fn.name== "runtime.NumGoroutine")=false:=by kernel_rfl)
  (h2:fn.body=some c:=by exact rfl)(h3:fn.ntmps=n:=by exact rfl)(h4:Nat.ble asz.length n=true:=by exact rfl):Ctr P f asz st Q:=kH hf h1 h2 h3 h4 h
end Go.Sk
